import PyProof.Rows.All
import Wide.All
import OpenK.AllK
import Wide.FinOn
import HandS.ForMost
import HandS.ForExc
import HandS.DictComp
import HandS.IsInst
import HandS.Walk
import HandS.StrMore
import HandS.SetKeys
import HandS.Zip
import HandS.TryOnly
import HandS.Style
import HandS.Defaults
import HandS.Sort
import KE.GoesEnum
import PySem.Challenge.RW_partkin_k13_steps_done_and_done_again
set_option Elab.async false
set_option maxRecDepth 100000
set_option linter.all false
set_option maxHeartbeats 8000000

/-! the layer of weakest readings, and of what a heap is known to hold -/
namespace WK
open PySem PySem.Spec PyProof.Rows L2

/-! ### weakest readings, the same in a def and in a comprehension's block -/
/-- what contexts of one def have alike -/
def Al (P : Program) (w : World) (K : PySem.W.Frag) (X : Cx) : Prop := X.prog = P ∧ X.w = w ∧ X.K = K ∧ X.calm = true ∧ X.A.units + 100 < cLine
theorem al_of {P : Program} {w : World} {K : PySem.W.Frag} {X : Cx} {k : Nat} (hr : Room k X.A) (h1 : X.prog = P := by rfl) (h2 : X.w = w := by rfl) (h3 : X.K = K := by rfl) (h4 : X.calm = true := by rfl) : Al P w K X :=
  ⟨h1, h2, h3, h4, by have := hr.un; omega⟩
section
variable (P : Program) (w : World) (K : PySem.W.Frag)
def OpU (f : Value → Value → Sem Value) : R2 := fun x y H Q => ∀ X pins s σ v u, Al P w K X → Inv X pins σ H s → RelV x v → RelV y u → wpAny (model X.prog X.w) X.A (f v u) (EP X pins σ Q) X.xe s
def IxU : R2 := fun x y H Q => ∀ (value slice : Expr) X pins s σ v u, Al P w K X → Inv X pins σ H s → RelV x v → RelV y u → subscripted slice false v u = operate [v, u] (getItem v u) →
  wpAny (model X.prog X.w) X.A (subscriptTail value slice v u) (EP X pins σ Q) X.xe s
def GetU : V → V → Hp → VK → Prop := fun x y H Q => ∀ X pins s σ v u, Al P w K X → Inv X pins σ H s → RelV x v → RelV y u → wpAny (model X.prog X.w) X.A (getItem v u) (EP X pins σ Q) X.xe s
def SetU : TSet := fun o i v H Q => ∀ X pins s σ ov iv u, Al P w K X → Inv X pins σ H s → RelV o ov → RelV i iv → RelV v u → wpAny (model X.prog X.w) X.A (setItem ov iv u) (fun _ s' => ∃ H', Inv X pins σ H' s' ∧ Q H') X.xe s
def IpU (op : Operator) : TIp := fun x y H Q => ∀ X pins s σ v u, Al P w K X → Inv X pins σ H s → RelV x v → RelV y u → wpAny (model X.prog X.w) X.A (inplaceOp op v u) (EP X pins σ Q) X.xe s
def CallU (f : Value) : List V → Hp → VK → Prop := fun xs H Q => ∀ X pins s σ us, Al P w K X → Inv X pins σ H s → Vals xs us → wpAny (model X.prog X.w) X.A (call f us) (EP X pins σ Q) X.xe s
def MetU (id : String) : V → List V → Hp → VK → Prop := fun x xs H Q => ∀ X pins s σ v us, Al P w K X → Inv X pins σ H s → RelV x v → Vals xs us → wpAny (model X.prog X.w) X.A (call (.builtin id) (v :: us)) (EP X pins σ Q) X.xe s
def TruU : V → Hp → (Bool → Hp → Prop) → Prop := fun x H Q => ∀ X pins s σ v, Al P w K X → Inv X pins σ H s → RelV x v → wpAny (model X.prog X.w) X.A (truthy v) (TP X pins σ Q) X.xe s
def SlU : V → Option Int → Option Int → Hp → VK → Prop := fun x lo hi H Q => ∀ X pins s σ v vl vu sl, Al P w K X → Inv X pins σ H s → RelV x v → s.heap.IsSliceOf sl vl vu .none → IsPart vl lo → IsPart vu hi →
    ∃ T id, typeLookup (.type T) "__getitem__" = pure (some (.builtin id)) ∧ s.TypeIs v T ∧ wpAny (model X.prog X.w) X.A (getItem v (.ref sl)) (EP X pins σ Q) X.xe s
def ItU (tg : Expr) : V → Hp → (It → Hp → Prop) → Prop := fun x H R => ∀ X pins s σ v, Al P w K X → Inv X pins σ H s → RelV x v → wpAny (model X.prog X.w) X.A (pyIter v) (PIE X pins σ tg R) X.xe s
end
section
variable {P : Program} {w : World} {K : PySem.W.Frag} {X : Cx}
theorem opU {f} (al : Al P w K X) : OpR X f (OpU P w K f) := fun pins s σ H x y v u Q I r1 r2 h => h X pins s σ v u al I r1 r2
theorem ixU (al : Al P w K X) : IxR X (IxU P w K) := fun value slice pins s σ H x y v u Q I r1 r2 h hs => h value slice X pins s σ v u al I r1 r2 hs
theorem getU (al : Al P w K X) : PGet X (GetU P w K) := fun pins s σ H o i ov iv Q I r1 r2 h => h X pins s σ ov iv al I r1 r2
theorem setU (al : Al P w K X) : PSet X (SetU P w K) := fun pins s σ H o i v ov iv u Q I r1 r2 r3 h => h X pins s σ ov iv u al I r1 r2 r3
theorem ipU {op} (al : Al P w K X) : PIp X op (IpU P w K op) := fun pins s σ H x y v u Q I r1 r2 h => h X pins s σ v u al I r1 r2
theorem callU {f} (al : Al P w K X) : CallR X f (CallU P w K f) := fun pins s σ H xs us Q I r h => h X pins s σ us al I r
theorem metU {id} (al : Al P w K X) : MtR X id (MetU P w K id) := fun pins s σ H x xs v us Q I r rs h => h X pins s σ v us al I r rs
theorem truU (al : Al P w K X) : TruR X (TruU P w K) := fun pins s σ H x v Q I r h => h X pins s σ v al I r
theorem slU (al : Al P w K X) : SlR X (SlU P w K) := fun pins s σ H x v vl vu lo hi sl Q I r1 h1 h2 h3 h => h X pins s σ v vl vu sl al I r1 h1 h2 h3
/-- what is walked, by its value -/
def iVal (P : Program) (w : World) (K : PySem.W.Frag) (tg : Expr) (te : TE) : TI := fun σ H R => te σ H fun v H1 => ItU P w K tg v H1 R
theorem pi_val {tg e : Expr} {te : TE} (al : Al P w K X) (he : PE X e te) : PI X tg e (iVal P w K tg te) := by
  refine ⟨fun pins s σ H R I h => ?_⟩
  exact thn (he.run pins s σ H _ I h) fun v s1 ⟨x, H1, I1, r1, q1⟩ => q1 X pins s1 σ v al I1 r1
section
variable {x y z : V} {H : Hp} {Q : VK} {xs : List V}
theorem OpU.of {f} {r : R2} (h : ∀ X, Al P w K X → OpR X f r) (k : r x y H Q) : OpU P w K f x y H Q := fun X pins s σ v u al I r1 r2 => h X al pins s σ H x y v u Q I r1 r2 k
theorem IxU.of {r : R2} (h : ∀ X, Al P w K X → IxR X r) (k : r x y H Q) : IxU P w K x y H Q := fun value slice X pins s σ v u al I r1 r2 hs => h X al value slice pins s σ H x y v u Q I r1 r2 k hs
theorem SetU.of {t : TSet} {Q : Hp → Prop} (h : ∀ X, Al P w K X → PSet X t) (k : t x y z H Q) : SetU P w K x y z H Q := fun X pins s σ ov iv u al I r1 r2 r3 => h X al pins s σ H x y z ov iv u Q I r1 r2 r3 k
theorem IpU.of {op} {t : TIp} (h : ∀ X, Al P w K X → PIp X op t) (k : t x y H Q) : IpU P w K op x y H Q := fun X pins s σ v u al I r1 r2 => h X al pins s σ H x y v u Q I r1 r2 k
theorem CallU.of {f} {r : List V → Hp → VK → Prop} (h : ∀ X, Al P w K X → CallR X f r) (k : r xs H Q) : CallU P w K f xs H Q := fun X pins s σ us al I r1 => h X al pins s σ H xs us Q I r1 k
theorem MetU.of {id} {r : V → List V → Hp → VK → Prop} (h : ∀ X, Al P w K X → MtR X id r) (k : r x xs H Q) : MetU P w K id x xs H Q := fun X pins s σ v us al I r1 rs => h X al pins s σ H x xs v us Q I r1 rs k
theorem TruU.of {r : V → Hp → (Bool → Hp → Prop) → Prop} {Q : Bool → Hp → Prop} (h : ∀ X, Al P w K X → TruR X r) (k : r x H Q) : TruU P w K x H Q := fun X pins s σ v al I r1 => h X al pins s σ H x v Q I r1 k
theorem SlU.of {r : V → Option Int → Option Int → Hp → VK → Prop} {lo hi : Option Int} (h : ∀ X, Al P w K X → SlR X r) (k : r x lo hi H Q) : SlU P w K x lo hi H Q :=
  fun X pins s σ v vl vu sl al I r1 h1 h2 h3 => h X al pins s σ H x v vl vu lo hi sl Q I r1 h1 h2 h3 k
theorem OpU.ofK {f} {r : PySem.W.Frag → R2} (h : ∀ X, Al P w K X → OpR X f (r X.K)) (k : r K x y H Q) : OpU P w K f x y H Q := .of (fun X al => by have := h X al; rw [al.2.2.1] at this; exact this) k
theorem IxU.ofK {r : PySem.W.Frag → R2} (h : ∀ X, Al P w K X → IxR X (r X.K)) (k : r K x y H Q) : IxU P w K x y H Q := .of (fun X al => by have := h X al; rw [al.2.2.1] at this; exact this) k
theorem CallU.ofK {f} {r : PySem.W.Frag → List V → Hp → VK → Prop} (h : ∀ X, Al P w K X → CallR X f (r X.K)) (k : r K xs H Q) : CallU P w K f xs H Q := .of (fun X al => by have := h X al; rw [al.2.2.1] at this; exact this) k
theorem MetU.ofK {id} {r : PySem.W.Frag → V → List V → Hp → VK → Prop} (h : ∀ X, Al P w K X → MtR X id (r X.K)) (k : r K x xs H Q) : MetU P w K id x xs H Q := .of (fun X al => by have := h X al; rw [al.2.2.1] at this; exact this) k
theorem SlU.ofK {r : PySem.W.Frag → V → Option Int → Option Int → Hp → VK → Prop} {lo hi : Option Int} (h : ∀ X, Al P w K X → SlR X (r X.K)) (k : r K x lo hi H Q) : SlU P w K x lo hi H Q := .of (fun X al => by have := h X al; rw [al.2.2.1] at this; exact this) k
theorem TruU.ofK {r : PySem.W.Frag → V → Hp → (Bool → Hp → Prop) → Prop} {Q : Bool → Hp → Prop} (h : ∀ X, Al P w K X → TruR X (r X.K)) (k : r K x H Q) : TruU P w K x H Q := .of (fun X al => by have := h X al; rw [al.2.2.1] at this; exact this) k
theorem ItU.list {tg : Expr} {a : Addr} {xs : List V} {R : It → Hp → Prop} (h : SqL K H a xs) (k : R (Itl K a) H) : ItU P w K tg (.ref a) H R := by
  intro X pins s σ v al I r
  obtain ⟨rfl, rfl, rfl, hc, hu⟩ := al
  cases r
  obtain ⟨its, rv, p, hz⟩ := I.list h
  refine wpAny_pyIter_list p.isList ?_
  refine ⟨s.heap.objs.size, [s.heap.objs.size], _, _, H, rfl, I.kept (t' := s.toks) fun b o e => Heap.get?_push_of_some _ e, turn_list a _, ⟨_, Heap.get?_push_size _ rfl, rfl, rfl⟩, fun b hb => ?_, k⟩
  have e : b = s.heap.objs.size := by simpa using hb
  subst e
  exact I.fpOk (Nat.le_refl _) (I.hok.fresh (Nat.le_refl _))
theorem ItU.tup {tg : Expr} {a : Addr} {xs : List V} {R : It → Hp → Prop} (h : SqT K H a xs) (k : R (Itt K a) H) : ItU P w K tg (.ref a) H R := by
  intro X pins s σ v al I r
  obtain ⟨rfl, rfl, rfl, hc, hu⟩ := al
  cases r
  obtain ⟨its, rv, p, hz⟩ := I.tuple h
  refine wpAny_pyIter_tuple (show s.heap.IsTuple a its.toArray from p) ?_
  refine ⟨s.heap.objs.size, [s.heap.objs.size], _, _, H, rfl, I.kept (t' := s.toks) fun b o e => Heap.get?_push_of_some _ e, turn_tuple a _, ⟨_, Heap.get?_push_size _ rfl, rfl, rfl⟩, fun b hb => ?_, k⟩
  have e : b = s.heap.objs.size := by simpa using hb
  subst e
  exact I.fpOk (Nat.le_refl _) (I.hok.fresh (Nat.le_refl _))
end
end
end WK
namespace WK
open PySem PySem.Spec PyProof.Rows L2
theorem pg_tupU (K : PySem.W.Frag) {X : Cx} {es : List Expr} {k : Nat} {t : TGs} {n : Nat} {pos : Pos} (h : PGs X es t) (hK : X.K = K := by rfl) (hc : X.calm = true := by rfl) (hn : (assignEach es X.env).length = n := by rfl) (hst : (assignEach es X.env).findIdx? (·.1) = none := by rfl) :
    PG X (.Tuple es k pos) (gTup K n t) := by
  subst hK
  exact pg_tup hc h hn hst
theorem pe_fldU (K : PySem.W.Frag) {X : Cx} {e : Expr} {f : Str} {ta : TE} {pos : Pos} (he : PE X e ta) (hb : attributeBase e f X.env (eval e X.env) = eval e X.env) (hK : X.K = K := by rfl) : PE X (.Attribute e f pos) (tFld K ta f) := by
  subst hK
  exact pe_fld he hb
end WK

namespace WK
open PySem PySem.Spec PyProof.Rows L2

/-! ### what a heap is known to hold: B what stays, L what is one's own -/
abbrev Ex (H H' : Hp) : Prop := ∀ a o, H a = some o → H' a = some o
theorem Ex.refl (H : Hp) : Ex H H := fun _ _ h => h
theorem Ex.trans {H H1 H2 : Hp} (a : Ex H H1) (b : Ex H1 H2) : Ex H H2 := fun x o h => b x o (a x o h)
theorem Ex.new {H : Hp} {p : Addr} {o : HO} (h : H p = none) : Ex H (upd H p o) := fun a u e => by
  rw [upd_ne (ne_of_none e h)]
  exact e
theorem Ex.rd {H H' : Hp} {a : Addr} {u : HO} (e : Ex H H') (h : Rd H a u) : Rd H' a u := by
  rcases h with h | ⟨o, h⟩
  · exact Or.inl (e a _ h)
  · exact Or.inr ⟨o, e a _ h⟩
theorem Ex.sqL {K : PySem.W.Frag} {H H' : Hp} {a : Addr} {xs : List V} (e : Ex H H') (h : SqL K H a xs) : SqL K H' a xs := by
  rcases h with h | h
  · exact Or.inl (e.rd h)
  · exact Or.inr h
theorem Ex.sqT {K : PySem.W.Frag} {H H' : Hp} {a : Addr} {xs : List V} (e : Ex H H') (h : SqT K H a xs) : SqT K H' a xs := by
  rcases h with h | h
  · exact Or.inl (e.rd h)
  · exact Or.inr h
theorem Ex.ap {H H' : Hp} {a : Addr} {o : HO} (e : Ex H H') (h : H a = some o) : H' a = some o := e a o h

abbrev Led := List (Addr × HO)
structure Ent where
  B : Hp
  H : Hp
  A : List Addr
/-- F: how it was at an entry, and which addresses of it may change -/
structure Ok (F : Ent) (B : Hp) (L : Led) (H : Hp) : Prop where
  ex : Ex B H
  nd : (L.map (·.1)).Nodup
  own : ∀ p ∈ L, H p.1 = some p.2 ∧ B p.1 = none
  ex0 : Ex F.B B
  keep : ∀ a o, F.H a = some o → a ∉ F.A → H a = some o
  kA : ∀ a ∈ F.A, ∃ o, H a = some o
  fB : ∀ a o, B a = some o → (∃ u, F.B a = some u) ∨ F.H a = none ∨ a ∈ F.A
  fL : ∀ p ∈ L, p.1 ∈ F.A ∨ F.H p.1 = none
section
variable {F : Ent} {B H : Hp} {L L1 L2 : Led} {p : Addr} {o o' : HO}
theorem Ok.start (h : Ex B H) (nd : (L.map (·.1)).Nodup) (own : ∀ p ∈ L, H p.1 = some p.2 ∧ B p.1 = none) : Ok ⟨B, H, L.map (·.1)⟩ B L H where
  ex := h
  nd := nd
  own := own
  ex0 := Ex.refl _
  keep := fun _ _ e _ => e
  kA := fun a ha => by
    obtain ⟨q, hq, rfl⟩ := List.mem_map.mp ha
    exact ⟨_, (own q hq).1⟩
  fB := fun _ _ e => .inl ⟨_, e⟩
  fL := fun q hq => .inl (List.mem_map.mpr ⟨q, hq, rfl⟩)
theorem Ok.start0 (h : Ex B H) : Ok ⟨B, H, []⟩ B [] H := Ok.start (L := []) h List.nodup_nil (fun _ z => nomatch z)
theorem Ok.again (S : Ok F B L H) : Ok ⟨B, H, L.map (·.1)⟩ B L H := Ok.start S.ex S.nd S.own
theorem Ok.fresh (S : Ok F B L H) (hp : H p = none) : F.H p = none ∧ B p = none ∧ p ∉ L.map (·.1) := by
  refine ⟨?_, ?_, fun z => ?_⟩
  · cases e : F.H p with
    | none => rfl
    | some u =>
      by_cases ha : p ∈ F.A
      · obtain ⟨w, hw⟩ := S.kA p ha
        rw [hp] at hw
        cases hw
      · have := S.keep p u e ha
        rw [hp] at this
        cases this
  · cases e : B p with
    | none => rfl
    | some u =>
      have := S.ex p u e
      rw [hp] at this
      cases this
  · obtain ⟨q, hq, rfl⟩ := List.mem_map.mp z
    have := (S.own q hq).1
    rw [hp] at this
    cases this
theorem Ok.newL (S : Ok F B L H) (hp : H p = none) : Ok F B ((p, o) :: L) (upd H p o) := by
  obtain ⟨f0, f1, f2⟩ := S.fresh hp
  have ne : ∀ {a u}, H a = some u → a ≠ p := fun e => ne_of_none e hp
  refine ⟨fun a u e => ?_, List.nodup_cons.mpr ⟨f2, S.nd⟩, fun q hq => ?_, S.ex0, fun a u e h => ?_, fun a h => ?_, S.fB, fun q hq => ?_⟩
  · rw [upd_ne (ne (S.ex a u e))]; exact S.ex a u e
  · rcases List.mem_cons.mp hq with rfl | hq
    · exact ⟨upd_same, f1⟩
    · obtain ⟨e1, e2⟩ := S.own q hq
      exact ⟨by rw [upd_ne (ne e1)]; exact e1, e2⟩
  · have := S.keep a u e h
    rw [upd_ne (ne this)]; exact this
  · obtain ⟨u, e⟩ := S.kA a h
    exact ⟨u, by rw [upd_ne (ne e)]; exact e⟩
  · rcases List.mem_cons.mp hq with rfl | hq
    · exact .inr f0
    · exact S.fL q hq
/-- a thing that nobody tells of -/
theorem Ok.junk (S : Ok F B L H) (hp : H p = none) : Ok F B L (upd H p o) := by
  have S1 : Ok F B ((p, o) :: L) (upd H p o) := S.newL hp
  exact ⟨S1.ex, (List.nodup_cons.mp S1.nd).2, fun q hq => S1.own q (List.mem_cons_of_mem _ hq), S1.ex0, S1.keep, S1.kA, S1.fB, fun q hq => S1.fL q (List.mem_cons_of_mem _ hq)⟩
theorem Ok.perm (S : Ok F B L H) (h : L.Perm L1) : Ok F B L1 H :=
  ⟨S.ex, (h.map _).nodup_iff.mp S.nd, fun q hq => S.own q (h.mem_iff.mpr hq), S.ex0, S.keep, S.kA, S.fB, fun q hq => S.fL q (h.mem_iff.mpr hq)⟩
/-- the first of one's own is let go: it stays as it is from now on -/
theorem Ok.freeze (S : Ok F B ((p, o) :: L) H) : Ok F (upd B p o) L H := by
  obtain ⟨e1, e2⟩ := S.own _ (List.mem_cons_self ..)
  have nd := List.nodup_cons.mp S.nd
  have np : ∀ q ∈ L, q.1 ≠ p := fun q hq z => nd.1 (List.mem_map.mpr ⟨q, hq, z⟩)
  refine ⟨fun a u e => ?_, nd.2, fun q hq => ?_, fun a u e => ?_, S.keep, S.kA, fun a u e => ?_, fun q hq => S.fL q (List.mem_cons_of_mem _ hq)⟩
  · by_cases h : a = p
    · subst h
      rw [upd_same] at e
      cases e
      exact e1
    · rw [upd_ne h] at e
      exact S.ex a u e
  · obtain ⟨g1, g2⟩ := S.own q (List.mem_cons_of_mem _ hq)
    exact ⟨g1, by rw [upd_ne (np q hq)]; exact g2⟩
  · have := S.ex0 a u e
    rw [upd_ne (ne_of_none this e2)]; exact this
  · by_cases h : a = p
    · subst h
      rcases S.fL _ (List.mem_cons_self ..) with z | z
      · exact .inr (.inr z)
      · exact .inr (.inl z)
    · rw [upd_ne h] at e
      exact S.fB a u e
theorem Ok.exF (S : Ok F B ((p, o) :: L) H) : Ex B (upd B p o) := Ex.new (S.own _ (List.mem_cons_self ..)).2
theorem Ok.mut (S : Ok F B ((p, o) :: L) H) : Ok F B ((p, o') :: L) (upd H p o') := by
  obtain ⟨e1, e2⟩ := S.own _ (List.mem_cons_self ..)
  have nd := List.nodup_cons.mp S.nd
  have np : ∀ q ∈ L, q.1 ≠ p := fun q hq z => nd.1 (List.mem_map.mpr ⟨q, hq, z⟩)
  refine ⟨fun a u e => ?_, List.nodup_cons.mpr nd, fun q hq => ?_, S.ex0, fun a u e h => ?_, fun a h => ?_, S.fB, fun q hq => ?_⟩
  · rw [upd_ne (ne_of_none e e2)]; exact S.ex a u e
  · rcases List.mem_cons.mp hq with rfl | hq
    · exact ⟨upd_same, e2⟩
    · obtain ⟨g1, g2⟩ := S.own q (List.mem_cons_of_mem _ hq)
      exact ⟨by rw [upd_ne (np q hq)]; exact g1, g2⟩
  · rcases S.fL _ (List.mem_cons_self ..) with z | z
    · rw [upd_ne (fun y => h (by rw [y]; exact z))]; exact S.keep a u e h
    · rw [upd_ne (fun y => by rw [y] at e; rw [z] at e; cases e)]; exact S.keep a u e h
  · by_cases y : a = p
    · exact ⟨o', by rw [y]; exact upd_same⟩
    · rw [upd_ne y]; exact S.kA a h
  · rcases List.mem_cons.mp hq with rfl | hq
    · exact S.fL (p, o) (List.mem_cons_self ..)
    · exact S.fL q (List.mem_cons_of_mem _ hq)
/-- at any place of the ledger -/
theorem Ok.mutAt (S : Ok F B (L1 ++ (p, o) :: L2) H) : Ok F B (L1 ++ (p, o') :: L2) (upd H p o') :=
  ((S.perm List.perm_middle).mut (o' := o')).perm List.perm_middle.symm
theorem Ok.newB (S : Ok F B L H) (hp : H p = none) : Ok F (upd B p o) L (upd H p o) := (S.newL hp).freeze
theorem Ok.exB (S : Ok F B L H) (hp : H p = none) : Ex B (upd B p o) := Ex.new (S.fresh hp).2.1
/-- a call that may change L1 alone -/
theorem Ok.call {B' H' : Hp} {L1' : Led} (S : Ok F B (L1 ++ L2) H) (T : Ok ⟨B, H, L1.map (·.1)⟩ B' L1' H') : Ok F B' (L1' ++ L2) H' := by
  have nd := S.nd
  rw [List.map_append, List.nodup_append] at nd
  have na : ∀ q ∈ L2, q.1 ∉ L1.map (·.1) := fun q hq z => nd.2.2 _ z _ (List.mem_map.mpr ⟨q, hq, rfl⟩) rfl
  have k2 : ∀ q ∈ L2, H' q.1 = some q.2 ∧ B' q.1 = none := fun q hq => by
    obtain ⟨e1, e2⟩ := S.own q (List.mem_append_right _ hq)
    refine ⟨T.keep _ _ e1 (na q hq), ?_⟩
    cases e : B' q.1 with
    | none => rfl
    | some u =>
      rcases T.fB _ _ e with ⟨w, z⟩ | z | z
      · rw [show B q.1 = some w from z] at e2
        cases e2
      · rw [show H q.1 = none from z] at e1
        cases e1
      · exact absurd z (na q hq)
  have key : ∀ a, a ∈ L1.map (·.1) → a ∈ F.A ∨ F.H a = none := fun a ha => by
    obtain ⟨q, hq, rfl⟩ := List.mem_map.mp ha
    exact S.fL q (List.mem_append_left _ hq)
  refine ⟨T.ex, ?_, fun q hq => ?_, S.ex0.trans T.ex0, fun a u e h => ?_, fun a h => ?_, fun a u e => ?_, fun q hq => ?_⟩
  · rw [List.map_append, List.nodup_append]
    refine ⟨T.nd, nd.2.1, fun a ha b hb z => ?_⟩
    subst z
    obtain ⟨q, hq, rfl⟩ := List.mem_map.mp hb
    obtain ⟨q', hq', e'⟩ := List.mem_map.mp ha
    rcases T.fL q' hq' with y | y
    · exact na q hq (by rw [← e']; exact y)
    · have := (S.own q (List.mem_append_right _ hq)).1
      have y' : H q'.1 = none := y
      have e'' : q'.1 = q.1 := e'
      rw [e'', this] at y'
      cases y'
  · rcases List.mem_append.mp hq with hq | hq
    · exact T.own q hq
    · exact k2 q hq
  · refine T.keep a u (S.keep a u e h) fun z => ?_
    rcases key a z with y | y
    · exact h y
    · rw [y] at e
      cases e
  · obtain ⟨u, e⟩ := S.kA a h
    by_cases z : a ∈ L1.map (·.1)
    · exact T.kA a z
    · exact ⟨u, T.keep a u e z⟩
  · rcases T.fB a u e with ⟨w, z⟩ | z | z
    · exact S.fB a w z
    · refine .inr (.inl ?_)
      cases e' : F.H a with
      | none => rfl
      | some w =>
        by_cases y : a ∈ F.A
        · obtain ⟨v, hv⟩ := S.kA a y
          rw [show H a = none from z] at hv
          cases hv
        · have := S.keep a w e' y
          rw [show H a = none from z] at this
          cases this
    · rcases key a z with y | y
      · exact .inr (.inr y)
      · exact .inr (.inl y)
  · rcases List.mem_append.mp hq with hq | hq
    · rcases T.fL q hq with z | z
      · exact key _ z
      · refine .inr ?_
        cases e' : F.H q.1 with
        | none => rfl
        | some w =>
          by_cases y : q.1 ∈ F.A
          · obtain ⟨v, hv⟩ := S.kA _ y
            rw [show H q.1 = none from z] at hv
            cases hv
          · have := S.keep _ w e' y
            rw [show H q.1 = none from z] at this
            cases this
    · exact S.fL q (List.mem_append_right _ hq)
theorem Ok.callP {B' H' : Hp} (S : Ok F B L H) (T : Ok ⟨B, H, []⟩ B' [] H') : Ok F B' L H' := S.call (L1 := []) (L1' := []) T
/-- a call that hands out one's own things besides -/
theorem Ok.callN {B' H' : Hp} {L' : Led} (S : Ok F B L H) (T : Ok ⟨B, H, []⟩ B' L' H') : Ok F B' (L' ++ L) H' := S.call (L1 := []) (L1' := L') T
theorem Ok.at (S : Ok F B L H) {q : Addr × HO} (h : q ∈ L) : H q.1 = some q.2 := (S.own q h).1
theorem Ok.sqB {K : PySem.W.Frag} {a : Addr} {xs : List V} (S : Ok F B L H) (h : SqL K B a xs) : SqL K H a xs := S.ex.sqL h
theorem Ok.tqB {K : PySem.W.Frag} {a : Addr} {xs : List V} (S : Ok F B L H) (h : SqT K B a xs) : SqT K H a xs := S.ex.sqT h
/-- the ledger less what is no longer looked at -/
theorem Ok.drop (S : Ok F B ((p, o) :: L) H) : Ok F B L H :=
  ⟨S.ex, (List.nodup_cons.mp S.nd).2, fun q hq => S.own q (List.mem_cons_of_mem _ hq), S.ex0, S.keep, S.kA, S.fB, fun q hq => S.fL q (List.mem_cons_of_mem _ hq)⟩
end

end WK
namespace L2
open PySem PySem.Spec PyProof.Rows WK
/-! ### data -/
section
variable {K : PySem.W.Frag} {B B' : Hp}
mutual
theorem Dp.up (e : Ex B B') : ∀ {v : V} {d : PyData}, Dp K B v d → Dp K B' v d
  | _, _, .non => .non
  | _, _, .bl b => .bl b
  | _, _, .int i => .int i
  | _, _, .str x => .str x
  | _, _, .lst h a => .lst (e.sqL h) (DpAll.up e a)
  | _, _, .tup h a => .tup (e.sqT h) (DpAll.up e a)
theorem DpAll.up (e : Ex B B') : ∀ {vs : List V} {ds : List PyData}, DpAll K B vs ds → DpAll K B' vs ds
  | _, _, .nil => .nil
  | _, _, .cons h t => .cons (Dp.up e h) (DpAll.up e t)
end
theorem Dp.int_inv {v : V} {i : Int} (h : Dp K B v (.int i)) : v = .int i := by cases h; rfl
theorem Dp.str_inv {v : V} {x : Str} (h : Dp K B v (.str x)) : v = .str x := by cases h; rfl
theorem Dp.bl_inv {v : V} {x : Bool} (h : Dp K B v (.bool x)) : v = .bl x := by cases h; rfl
theorem Dp.non_inv {v : V} (h : Dp K B v .none) : v = .non := by cases h; rfl
theorem Dp.tup_inv {v : V} {ds : List PyData} (h : Dp K B v (.tuple ds)) : ∃ a xs, v = .ref a ∧ SqT K B a xs ∧ DpAll K B xs ds := by
  cases h with
  | tup h a => exact ⟨_, _, rfl, h, a⟩
theorem Dp.lst_inv {v : V} {ds : List PyData} (h : Dp K B v (.list ds)) : ∃ a xs, v = .ref a ∧ SqL K B a xs ∧ DpAll K B xs ds := by
  cases h with
  | lst h a => exact ⟨_, _, rfl, h, a⟩
theorem DpAll.nil_inv {vs : List V} (h : DpAll K B vs []) : vs = [] := by cases h; rfl
theorem DpAll.cons_inv {vs : List V} {d : PyData} {ds : List PyData} (h : DpAll K B vs (d :: ds)) : ∃ v r, vs = v :: r ∧ Dp K B v d ∧ DpAll K B r ds := by
  cases h with
  | cons h t => exact ⟨_, _, rfl, h, t⟩
theorem DpAll.length : ∀ {vs : List V} {ds : List PyData}, DpAll K B vs ds → vs.length = ds.length
  | _, _, .nil => rfl
  | _, _, .cons _ t => congrArg (· + 1) (DpAll.length t)
theorem DpAll.get : ∀ {vs : List V} {ds : List PyData}, DpAll K B vs ds → ∀ {i : Nat} {v : V}, vs[i]? = some v → ∃ d, ds[i]? = some d ∧ Dp K B v d
  | _, _, .nil, i, v, h => by simp at h
  | _, _, .cons h t, 0, v, e => by simp at e; subst e; exact ⟨_, rfl, h⟩
  | _, _, .cons h t, i + 1, v, e => by simpa using DpAll.get t (i := i) (by simpa using e)
theorem DpAll.get' : ∀ {vs : List V} {ds : List PyData}, DpAll K B vs ds → ∀ {i : Nat} {d : PyData}, ds[i]? = some d → ∃ v, vs[i]? = some v ∧ Dp K B v d
  | _, _, .nil, i, v, h => by simp at h
  | _, _, .cons h t, 0, v, e => by simp at e; subst e; exact ⟨_, rfl, h⟩
  | _, _, .cons h t, i + 1, v, e => by simpa using DpAll.get' t (i := i) (by simpa using e)
theorem DpAll.append : ∀ {vs ws : List V} {ds es : List PyData}, DpAll K B vs ds → DpAll K B ws es → DpAll K B (vs ++ ws) (ds ++ es)
  | _, _, _, _, .nil, s => s
  | _, _, _, _, .cons h t, s => .cons h (DpAll.append t s)
theorem DpAll.snoc {vs : List V} {v : V} {ds : List PyData} {d : PyData} (h : DpAll K B vs ds) (g : Dp K B v d) : DpAll K B (vs ++ [v]) (ds ++ [d]) := h.append (.cons g .nil)
theorem DpAll.ints : ∀ {vs : List V} {ns : List Int}, DpAll K B vs (ns.map PyData.int) → vs = ns.map V.int
  | _, [], .nil => rfl
  | _, n :: ns, .cons h t => by rw [Dp.int_inv h, DpAll.ints t]; rfl
theorem DpAll.strs : ∀ {vs : List V} {ns : List Str}, DpAll K B vs (ns.map PyData.str) → vs = ns.map V.str
  | _, [], .nil => rfl
  | _, n :: ns, .cons h t => by rw [Dp.str_inv h, DpAll.strs t]; rfl
theorem dpInts : ∀ (ns : List Int), DpAll K B (ns.map V.int) (ns.map PyData.int)
  | [] => .nil
  | n :: ns => .cons (.int n) (dpInts ns)
theorem dpStrs : ∀ (ns : List Str), DpAll K B (ns.map V.str) (ns.map PyData.str)
  | [] => .nil
  | n :: ns => .cons (.str n) (dpStrs ns)
theorem dpBools : ∀ (ns : List Bool), DpAll K B (ns.map V.bl) (ns.map PyData.bool)
  | [] => .nil
  | n :: ns => .cons (.bl n) (dpBools ns)
theorem DpAll.bools : ∀ {vs : List V} {ns : List Bool}, DpAll K B vs (ns.map PyData.bool) → vs = ns.map V.bl
  | _, [], .nil => rfl
  | _, n :: ns, .cons h t => by rw [Dp.bl_inv h, DpAll.bools t]; rfl
end
end L2

namespace WK
open PySem PySem.Spec PyProof.Rows L2

/-! ### reading by reading: what to show next -/
def BlQ (Q : Bool → Hp → Prop) (x : V) (H : Hp) : Prop := ∃ b, x = .bl b ∧ Q b H
def InQ (Q : Int → Hp → Prop) (x : V) (H : Hp) : Prop := ∃ i, x = .int i ∧ Q i H
def PrQ (Q : V → V → Hp → Prop) (vs : List V) (H : Hp) : Prop := ∃ v w, vs = [v, w] ∧ Q v w H
section
variable {X : Cx} {K : PySem.W.Frag} {σ : L2.St} {H : Hp} {Q : VK} {ta tb te tc : TE} {t u : TT}
theorem r_var {i : Nat} {v : V} (h : σ[i]? = some (some v)) (k : Q v H) : tVar i σ H Q := ⟨v, h, k⟩
theorem r_c {v : V} (k : Q v H) : tC v σ H Q := k
theorem r_op {r : R2} (k : ta σ H fun x H1 => tb σ H1 fun y H2 => r x y H2 Q) : tOp r ta tb σ H Q := k
theorem r_un {r : V → Hp → VK → Prop} (k : ta σ H fun x H1 => r x H1 Q) : tUn r ta σ H Q := k
theorem r_test {Q : Bool → Hp → Prop} (k : te σ H (BlQ Q)) : tTest te σ H Q := k
theorem r_B {Q : Bool → Hp → Prop} (k : te σ H (BlQ Q)) : tB te σ H Q := k
theorem r_bl {Q : Bool → Hp → Prop} {b : Bool} (k : Q b H) : BlQ Q (.bl b) H := ⟨b, rfl, k⟩
theorem r_and {Q : Bool → Hp → Prop} (k : t σ H fun c H1 => if c = true then u σ H1 Q else Q false H1) : tAnd t u σ H Q := k
theorem r_or {Q : Bool → Hp → Prop} (k : t σ H fun c H1 => if c = true then Q true H1 else u σ H1 Q) : tOr t u σ H Q := k
theorem r_not {Q : Bool → Hp → Prop} (k : t σ H fun c H1 => Q (!c) H1) : tNot t σ H Q := k
theorem r_andV (k : ta σ H (BlQ fun c H1 => if c = true then tb σ H1 Q else Q (.bl false) H1)) : tAndV ta tb σ H Q := k
theorem r_orV (k : ta σ H (BlQ fun c H1 => if c = true then Q (.bl true) H1 else tb σ H1 Q)) : tOrV ta tb σ H Q := k
theorem r_notV (k : ta σ H (BlQ fun c H1 => Q (.bl (!c)) H1)) : tNotV ta σ H Q := k
theorem r_if (k : t σ H fun c H1 => if c = true then ta σ H1 Q else tb σ H1 Q) : tIf t ta tb σ H Q := k
theorem r_nil {Q : List V → Hp → Prop} (k : Q [] H) : tNil σ H Q := k
theorem r_cons {tr : TA} {Q : List V → Hp → Prop} (k : te σ H fun x H1 => tr σ H1 fun xs H2 => Q (x :: xs) H2) : tCons te tr σ H Q := k
theorem r_cb {r : List V → Hp → VK → Prop} {ts : TA} (k : ts σ H fun vs H1 => r vs H1 Q) : tCB r ts σ H Q := k
theorem r_nopart {Q : Option Int → Hp → Prop} (k : Q none H) : tNoPart σ H Q := k
theorem r_part {Q : Option Int → Hp → Prop} (k : te σ H (InQ fun i H1 => Q (some i) H1)) : tPart te σ H Q := k
theorem r_in {Q : Int → Hp → Prop} {i : Int} (k : Q i H) : InQ Q (.int i) H := ⟨i, rfl, k⟩
theorem r_sl {r : V → Option Int → Option Int → Hp → VK → Prop} {tl th : TO} (k : te σ H fun x H1 => tl σ H1 fun l H2 => th σ H2 fun u H3 => r x l u H3 Q) : tSl r te tl th σ H Q := k
theorem r_chain {r r' : R2} (k : ta σ H fun x H1 => tb σ H1 fun y H2 => r x y H2 (BlQ fun k H3 => if k = true then tc σ H3 fun w H4 => r' y w H4 Q else Q (.bl false) H3)) : tChain r r' ta tb tc σ H Q := k
/-! statements -/
variable {D : Ends} {ts us : TS}
theorem r_seq (k : ts { D with nx := us D } σ H) : tSeq ts us D σ H := k
theorem r_next (k : D.nx σ H) : tNext D σ H := k
theorem r_asg {g : TG} (k : te σ H fun x H1 => g x σ H1 D.nx) : tAsg te g D σ H := k
theorem r_name {i : Nat} {v : V} {Q : L2.St → Hp → Prop} (k : Q (σ.set i (some v)) H) : gName i v σ H Q := k
theorem r_drop (k : te σ H fun _ H1 => D.nx σ H1) : tDrop te D σ H := k
theorem r_ret (k : te σ H D.rt) : tRet te D σ H := k
theorem r_retN (k : D.rt .non H) : tRetN D σ H := k
theorem r_ifS (k : t σ H fun b H1 => if b = true then ts D σ H1 else us D σ H1) : tIfS t ts us D σ H := k
theorem r_gsub {to ti : TE} {tse : TSet} {v : V} {Q : L2.St → Hp → Prop} (k : to σ H fun o H1 => ti σ H1 fun i H2 => tse o i v H2 fun H3 => Q σ H3) : gSub to ti tse v σ H Q := k
theorem r_gtup {n : Nat} {gs : TGs} {a : Addr} {xs : List V} {Q : L2.St → Hp → Prop} (h : SqT K H a xs) (hn : xs.length = n) (k : gs xs σ H Q) : gTup K n gs (.ref a) σ H Q := ⟨a, xs, rfl, h, hn, k⟩
theorem r_gnil {Q : L2.St → Hp → Prop} (k : Q σ H) : gNil [] σ H Q := ⟨rfl, k⟩
theorem r_gcons {g : TG} {gs : TGs} {v : V} {vs : List V} {Q : L2.St → Hp → Prop} (k : g v σ H fun σ' H' => gs vs σ' H' Q) : gCons g gs (v :: vs) σ H Q := ⟨v, vs, rfl, k⟩
theorem r_par {i j : Nat} {tas : TA} (k : tas σ H (PrQ fun v w H1 => D.nx ((σ.set i (some v)).set j (some w)) H1)) : tPar i j tas D σ H := k
theorem r_par2 {Q : V → V → Hp → Prop} {v w : V} (k : Q v w H) : PrQ Q [v, w] H := ⟨v, w, rfl, k⟩
theorem r_aug {i : Nat} {ti : TIp} {v : V} (h : σ[i]? = some (some v)) (k : te σ H fun y H1 => ti v y H1 fun z H2 => D.nx (σ.set i (some z)) H2) : tAug i te ti D σ H := ⟨v, h, k⟩
theorem r_augS {to ti : TE} {tget : V → V → Hp → VK → Prop} {tip : TIp} {tset : TSet}
    (k : to σ H fun o H1 => ti σ H1 fun i H2 => tget o i H2 fun x H3 => te σ H3 fun y H4 => tip x y H4 fun z H5 => tset o i z H5 fun H6 => D.nx σ H6) : tAugS to ti te tget tip tset D σ H := k
end
/-! branches -/
theorem ifd {c : Prop} {inst : Decidable c} {A B : Prop} (h1 : c → A) (h2 : ¬ c → B) : if decide c = true then A else B := by
  by_cases h : c
  · rw [if_pos (decide_eq_true h)]; exact h1 h
  · rw [if_neg (by rw [decide_eq_false h]; exact Bool.false_ne_true)]; exact h2 h
theorem ifT {b : Bool} {A B : Prop} (h : b = true) (k : A) : if b = true then A else B := by rw [if_pos h]; exact k
theorem ifF {b : Bool} {A B : Prop} (h : b = false) (k : B) : if b = true then A else B := by rw [if_neg (by rw [h]; exact Bool.false_ne_true)]; exact k
theorem ifdT {c : Prop} {inst : Decidable c} {A B : Prop} (h : c) (k : A) : if decide c = true then A else B := ifT (decide_eq_true h) k
theorem ifdF {c : Prop} {inst : Decidable c} {A B : Prop} (h : ¬ c) (k : B) : if decide c = true then A else B := ifF (decide_eq_false h) k
theorem ifb {b : Bool} {A B : Prop} (h1 : b = true → A) (h2 : b = false → B) : if b = true then A else B := by
  cases b with
  | true => exact if_pos rfl ▸ h1 rfl
  | false => exact h2 rfl

theorem Al.hu {P w K X} (al : Al P w K X) : X.A.units + 1 < cLine := by have := al.2.2.2.2; omega
theorem Al.hu64 {P w K X} (al : Al P w K X) : X.A.units + 64 < cLine := by have := al.2.2.2.2; omega
theorem Al.calm {P w K X} (al : Al P w K X) : X.calm = true := al.2.2.2.1
/-! ### by values -/
section
variable {P : Program} {w : World} {K : PySem.W.Frag} {H B : Hp} {Q : VK} {F : Ent} {L L1 L2 : Led}
theorem v_add {i j : Int} (k : Q (.int (i + j)) H) : OpU P w K (binaryOp .Add) (.int i) (.int j) H Q := .of (fun _ al => op_add) ⟨i, j, rfl, rfl, k⟩
theorem v_sub {i j : Int} (k : Q (.int (i - j)) H) : OpU P w K (binaryOp .Sub) (.int i) (.int j) H Q := .of (fun _ al => op_sub) ⟨i, j, rfl, rfl, k⟩
theorem v_mul {i j : Int} (h : CMul i j) (k : Q (.int (i * j)) H) : OpU P w K (binaryOp .Mult) (.int i) (.int j) H Q := .of (fun _ al => op_mul) ⟨i, j, rfl, rfl, h, k⟩
theorem v_mod {i j : Int} (h : 0 < j) (k : Q (.int (i % j)) H) : OpU P w K (binaryOp .Mod) (.int i) (.int j) H Q := .of (fun _ al => op_mod) ⟨i, j, rfl, rfl, h, k⟩
theorem v_fdiv {i j : Int} (h : CDiv i j) (k : Q (.int (i / j)) H) : OpU P w K (binaryOp .FloorDiv) (.int i) (.int j) H Q := .of (fun _ al => op_fdiv) ⟨i, j, rfl, rfl, h, k⟩
theorem v_pow {i j : Int} (h : CPow i j) (k : Q (.int (i ^ j.toNat)) H) : OpU P w K (binaryOp .Pow) (.int i) (.int j) H Q := .of (fun _ al => op_pow) ⟨i, j, rfl, rfl, h, k⟩
theorem v_addS {i j : Str} (h : i.length + j.length ≤ sizeLine) (k : Q (.str (i ++ j)) H) : OpU P w K (binaryOp .Add) (.str i) (.str j) H Q := .of (fun _ al => op_add_str) ⟨i, j, rfl, rfl, h, k⟩
theorem v_lt {i j : Int} (k : Q (.bl (decide (i < j))) H) : OpU P w K (compareOp .Lt) (.int i) (.int j) H Q := .of (fun _ al => op_lt) ⟨i, j, rfl, rfl, k⟩
theorem v_le {i j : Int} (k : Q (.bl (decide (i ≤ j))) H) : OpU P w K (compareOp .LtE) (.int i) (.int j) H Q := .of (fun _ al => op_le) ⟨i, j, rfl, rfl, k⟩
theorem v_gt {i j : Int} (k : Q (.bl (decide (j < i))) H) : OpU P w K (compareOp .Gt) (.int i) (.int j) H Q := .of (fun _ al => op_gt) ⟨i, j, rfl, rfl, k⟩
theorem v_ge {i j : Int} (k : Q (.bl (decide (j ≤ i))) H) : OpU P w K (compareOp .GtE) (.int i) (.int j) H Q := .of (fun _ al => op_ge) ⟨i, j, rfl, rfl, k⟩
theorem dec_i {i j : Int} : decide (V.int i = V.int j) = decide (i = j) := by
  by_cases h : i = j
  · subst h; simp
  · rw [decide_eq_false h]; exact decide_eq_false fun z => h (by injection z)
theorem dec_s {i j : Str} : decide (V.str i = V.str j) = decide (i = j) := by
  by_cases h : i = j
  · subst h; simp
  · rw [decide_eq_false h]; exact decide_eq_false fun z => h (by injection z)
theorem dec_b {i j : Bool} : decide (V.bl i = V.bl j) = decide (i = j) := by
  by_cases h : i = j
  · subst h; simp
  · rw [decide_eq_false h]; exact decide_eq_false fun z => h (by injection z)
theorem v_eqI {i j : Int} (k : Q (.bl (decide (i = j))) H) : OpU P w K (compareOp .Eq) (.int i) (.int j) H Q := .of (fun _ al => op_eq) ⟨rfl, by rw [dec_i]; exact k⟩
theorem v_eqS {i j : Str} (k : Q (.bl (decide (i = j))) H) : OpU P w K (compareOp .Eq) (.str i) (.str j) H Q := .of (fun _ al => op_eq) ⟨rfl, by rw [dec_s]; exact k⟩
theorem v_eqB {i j : Bool} (k : Q (.bl (decide (i = j))) H) : OpU P w K (compareOp .Eq) (.bl i) (.bl j) H Q := .of (fun _ al => op_eq) ⟨rfl, by rw [dec_b]; exact k⟩
theorem v_neI {i j : Int} (k : Q (.bl (!decide (i = j))) H) : OpU P w K (compareOp .NotEq) (.int i) (.int j) H Q := .of (fun _ al => op_ne) ⟨rfl, by rw [dec_i]; exact k⟩
theorem v_neS {i j : Str} (k : Q (.bl (!decide (i = j))) H) : OpU P w K (compareOp .NotEq) (.str i) (.str j) H Q := .of (fun _ al => op_ne) ⟨rfl, by rw [dec_s]; exact k⟩
theorem v_neB {i j : Bool} (k : Q (.bl (!decide (i = j))) H) : OpU P w K (compareOp .NotEq) (.bl i) (.bl j) H Q := .of (fun _ al => op_ne) ⟨rfl, by rw [dec_b]; exact k⟩
/-- data against data -/
theorem v_eqD {x y : V} {d e : PyData} (h1 : Dp K H x d) (h2 : Dp K H y e) (s1 : SeqAt.shaped d = true) (s2 : SeqAt.shaped e = true) (k : Q (.bl (PyData.eqv d e)) H) : OpU P w K (compareOp .Eq) x y H Q := .ofK (r := rEqD) (fun _ al => op_eqD al.hu64) ⟨d, e, h1, h2, s1, s2, k⟩
theorem v_neD {x y : V} {d e : PyData} (h1 : Dp K H x d) (h2 : Dp K H y e) (s1 : SeqAt.shaped d = true) (s2 : SeqAt.shaped e = true) (k : Q (.bl (!PyData.eqv d e)) H) : OpU P w K (compareOp .NotEq) x y H Q := .ofK (r := rNeD) (fun _ al => op_neD al.hu64) ⟨d, e, h1, h2, s1, s2, k⟩
theorem v_inSign {c : Nat} {z : Str} (k : Q (.bl (decide (c ∈ z.cps.toList))) H) : OpU P w K (compareOp .In) (.str ⟨#[c]⟩) (.str z) H Q := .of (fun _ al => op_in_sign) ⟨c, z, rfl, rfl, k⟩
end
section
variable {X : Cx} {P : Program} {w : World} {K : PySem.W.Frag} {H B : Hp} {Q : VK}
theorem op_dIn (hu : X.A.units + 1 < cLine) : OpR X (compareOp .In) (fun x y H Q => ∃ a o, y = .ref a ∧ DGet H a x o ∧ Q (.bl o.isSome) H) := by
  intro pins s σ H x y v u Q I rx ry h
  obtain ⟨a, o, rfl, g, q⟩ := h
  obtain rfl : u = Value.ref a := ry
  exact d_in hu I g rx fun s' I' => ⟨.bl o.isSome, H, I', rfl, q⟩
theorem op_dNotIn (hu : X.A.units + 1 < cLine) : OpR X (compareOp .NotIn) (fun x y H Q => ∃ a o, y = .ref a ∧ DGet H a x o ∧ Q (.bl (!o.isSome)) H) := by
  intro pins s σ H x y v u Q I rx ry h
  obtain ⟨a, o, rfl, g, q⟩ := h
  obtain rfl : u = Value.ref a := ry
  exact d_notIn hu I g rx fun s' I' => ⟨.bl (!o.isSome), H, I', rfl, q⟩
theorem ix_dict (hu : X.A.units + 1 < cLine) : IxR X (fun x y H Q => ∃ a v, x = .ref a ∧ DGet H a y (some v) ∧ Q v H) := by
  intro value slice pins s σ H x y v u Q I rx ry h hs
  obtain ⟨a, w, rfl, g, q⟩ := h
  obtain rfl : v = Value.ref a := rx
  have hT := dict_typeIs I g
  unfold subscriptTail
  refine wpAny_bind ?_
  rw [getitemInPython_of_ne hT.not_modules]
  refine wpAny_bind (wpAny_specialOf hT PySem.F.slot_dict_getitem.lookup ?_)
  have fin : wpAny (model X.prog X.w) X.A (subscripted slice false (.ref a) u) (fun r s₃ => wpAny (model X.prog X.w) X.A (letTemporaryGo value (.ref a) r >>= fun _ => pure r) (EP X pins σ Q) X.xe s₃) X.xe s := by
    rw [hs]
    exact wpAny_operating (wpAny_mono (d_getItem hu I g ry fun w' s' I' r' => show EP X pins σ Q w' s' from ⟨w, H, I', r', q⟩) (fun r s₃ h₃ => wpAny_bind (wpAny_letTemporaryGo (wpAny_pure h₃))) fun _ _ x => x)
  first
    | exact wpAny_pure (wpAny_bind fin)
    | exact wpAny_bind (wpAny_pure (wpAny_bind fin))
    | exact wpAny_bind fin
theorem set_dict (hu : X.A.units + 1 < cLine) : PSet X (fun o i v H Q => ∃ a H', o = .ref a ∧ DPut H a i v H' ∧ Q H') := by
  intro pins s σ H o i v ov iv u Q I ro ri rv h
  obtain ⟨a, H', rfl, g, q⟩ := h
  obtain rfl : ov = Value.ref a := ro
  exact d_setItem hu I g ri rv fun s' I' => ⟨H', I', q⟩
theorem mt_get (hu : X.A.units + 1 < cLine) : MtR X "dict.get" (fun x xs H Q => ∃ a y d o, x = .ref a ∧ xs = [y, d] ∧ DGet H a y o ∧ Q (o.getD d) H) := by
  intro pins s σ H x xs v us Q I rx rs h
  obtain ⟨a, y, d, o, rfl, rfl, g, q⟩ := h
  obtain rfl : v = Value.ref a := rx
  obtain ⟨u, w, rfl, r1, r2⟩ := vals2 rs
  exact d_get2 hu I g r1 r2 fun w' s' I' r' => ⟨_, H, I', r', q⟩
theorem mt_get1 (hu : X.A.units + 1 < cLine) : MtR X "dict.get" (fun x xs H Q => ∃ a y o, x = .ref a ∧ xs = [y] ∧ DGet H a y o ∧ Q (o.getD .non) H) := by
  intro pins s σ H x xs v us Q I rx rs h
  obtain ⟨a, y, o, rfl, rfl, g, q⟩ := h
  obtain rfl : v = Value.ref a := rx
  obtain ⟨u, rfl, r1⟩ := vals1 rs
  exact d_get1 hu I g r1 fun w' s' I' r' => ⟨_, H, I', r', q⟩
end

/-! ### calls of one's own -/
section
variable {P : Program} {w : World} {K : PySem.W.Frag} {mg : Str → Option Value} {base : Heap}
def FnG (P : Program) (w : World) (K : PySem.W.Frag) (mg : Str → Option Value) (base : Heap) (k : Nat) (x : Str) (ps : List Str) (sp : Sp) : Prop :=
  ∃ f fd, FnOk P w K mg base CX0 k f fd ps sp ∧ mg x = some (.ref f) ∧ PySem.W.keepIn K (.ref f) = true ∧ Binds K fd ps []
def MtG (P : Program) (w : World) (K : PySem.W.Frag) (mg : Str → Option Value) (base : Heap) (k : Nat) (C : Addr) (m : Str) (ps : List Str) (sp : Sp) : Prop :=
  ∃ f fd, FnOk P w K mg base CX0 k f fd ps sp ∧ Meth K C m f ∧ Binds K fd ps [] ∧ Cls K C
def MkG (P : Program) (w : World) (K : PySem.W.Frag) (mg : Str → Option Value) (base : Heap) (k : Nat) (C : Addr) (x : Str) (ps : List Str) (sp : Sp) : Prop :=
  ∃ f fd, FnOk P w K mg base CX0 k f fd ps sp ∧ Mk K C f ∧ mg x = some (.ref C) ∧ Binds K fd ps []
def tFn (sp : Sp) (t : TA) : TE := fun σ H Q => t σ H fun vs H1 => sp vs H1 Q E0
def tMth (C : Addr) (m : Str) (sp : Sp) (ta : TE) (t : TA) : TE := fun σ H Q => ta σ H fun x H1 => ∃ a dx fs, x = .ref a ∧ H1 a = some (.ins C dx fs) ∧ fs.lookup m = none ∧
  t σ H1 fun vs H2 => sp (x :: vs) H2 Q E0
def tMk (C : Addr) (sp : Sp) (t : TA) : TE := fun σ H Q => t σ H fun vs H1 => ∀ x dx, H1 x = none → H1 dx = none → dx ≠ x →
  sp (.ref x :: vs) (upd (upd H1 dx (.own x)) x (.ins C dx [])) (fun v H2 => v = .non ∧ Q (.ref x) H2) E0
theorem tFn_eq {sp : Sp} {t : TA} : tCall sp [] E0 t = tFn sp t := by
  unfold tCall tFn
  simp only [List.append_nil]
theorem tMth_eq {C : Addr} {m : Str} {sp : Sp} {ta : TE} {t : TA} : tMeth C m sp [] E0 ta t = tMth C m sp ta t := by
  unfold tMeth tMth
  simp only [List.append_nil]
theorem tMk_eq {C : Addr} {sp : Sp} {t : TA} : tMake C sp [] E0 t = tMk C sp t := by
  unfold tMake tMk
  simp only [List.append_nil]
variable {X : Cx} {k : Nat} {C : Addr} {x m : Str} {ps : List Str} {sp : Sp} {e o : Expr} {es : List Expr} {p pos apos : Pos} {t : TA} {ta : TE}
theorem pe_fn (G : FnG X.prog X.w X.K X.mg X.base k x ps sp) (hr : Room k X.A) (hg : Gl X x) (ha : PA X (e :: es) t) (hdb : (x == ("__debug__" : Str)) = false := by decide)
    (he : starEach (e :: es) X.env = (false, eval e X.env) :: starEach es X.env := by rfl) (hpl : (backTo pos (starEach es X.env)).any (·.1) = false := by rfl) : PE X (.Call (.Name x p) (e :: es) [] pos) (tFn sp t) := by
  obtain ⟨f, fd, F, hm, hk, hb⟩ := G
  rw [← tFn_eq]
  exact pe_call F hr hg hm hk hb .nil pass0 ha hdb he hpl
theorem pe_fn0 (G : FnG X.prog X.w X.K X.mg X.base k x ps sp) (hr : Room k X.A) (hg : Gl X x) (hdb : (x == ("__debug__" : Str)) = false := by decide) : PE X (.Call (.Name x p) [] [] pos) (tFn sp tNil) := by
  obtain ⟨f, fd, F, hm, hk, hb⟩ := G
  rw [← tFn_eq]
  exact pe_call0 F hr hg hm hk hb .nil pass0 hdb
theorem pe_mth {pl : Sem Bool} (G : MtG X.prog X.w X.K X.mg X.base k C m ps sp) (hr : Room k X.A) (ho : PE X o ta) (ha : PA X (e :: es) t)
    (hst : starEach (e :: es) X.env = (false, eval e X.env) :: starEach es X.env := by rfl) (hpl : (backTo pos (starEach es X.env)).any (·.1) = false := by rfl)
    (ht : eval (.Call (.Attribute o m apos) (e :: es) [] pos) X.env = (do
      let ov ← eval o X.env
      standAt apos.atName
      let (f, first) ← holding [ov] (getMethod ov m pl)
      callWith pos f first (backTo pos (starEach (e :: es) X.env)) (backToKw pos (keywordEach [] X.env))) := by rfl) : PE X (.Call (.Attribute o m apos) (e :: es) [] pos) (tMth C m sp ta t) := by
  obtain ⟨f, fd, F, hm, hb, c⟩ := G
  rw [← tMth_eq]
  exact pe_meth ho c hm F hr hb .nil pass0 ha hst hpl ht
theorem pe_mth0 {pl : Sem Bool} (G : MtG X.prog X.w X.K X.mg X.base k C m ps sp) (hr : Room k X.A) (ho : PE X o ta)
    (ht : eval (.Call (.Attribute o m apos) [] [] pos) X.env = (do
      let ov ← eval o X.env
      standAt apos.atName
      let (f, first) ← holding [ov] (getMethod ov m pl)
      callWith pos f first (backTo pos (starEach [] X.env)) (backToKw pos (keywordEach [] X.env))) := by rfl) : PE X (.Call (.Attribute o m apos) [] [] pos) (tMth C m sp ta tNil) := by
  obtain ⟨f, fd, F, hm, hb, c⟩ := G
  rw [← tMth_eq]
  exact pe_meth0 ho c hm F hr hb .nil pass0 ht
theorem pe_mk (G : MkG X.prog X.w X.K X.mg X.base k C x ps sp) (hr : Room (k + 1) X.A) (hg : Gl X x) (ha : PA X (e :: es) t) (hdb : (x == ("__debug__" : Str)) = false := by decide)
    (he : starEach (e :: es) X.env = (false, eval e X.env) :: starEach es X.env := by rfl) (hpl : (backTo pos (starEach es X.env)).any (·.1) = false := by rfl) : PE X (.Call (.Name x p) (e :: es) [] pos) (tMk C sp t) := by
  obtain ⟨f, fd, F, M, hm, hb⟩ := G
  rw [← tMk_eq]
  exact pe_make M F hr hg hm hb .nil pass0 ha hdb he hpl
theorem pe_mk0 (G : MkG X.prog X.w X.K X.mg X.base k C x ps sp) (hr : Room (k + 1) X.A) (hg : Gl X x) (hdb : (x == ("__debug__" : Str)) = false := by decide) : PE X (.Call (.Name x p) [] [] pos) (tMk C sp tNil) := by
  obtain ⟨f, fd, F, M, hm, hb⟩ := G
  rw [← tMk_eq]
  exact pe_make0 M F hr hg hm hb .nil pass0 hdb
theorem r_fn {σ : L2.St} {H : Hp} {Q : VK} (k : t σ H fun vs H1 => sp vs H1 Q E0) : tFn sp t σ H Q := k
end
end WK
namespace WK
open PySem PySem.Spec PyProof.Rows L2
/-! ### globals -/
def GlI (mg : Str → Option Value) (x : Str) (i : Int) : Prop := ∃ t, mg x = some (.int i t)
def GlS (mg : Str → Option Value) (x : Str) (z : Str) : Prop := ∃ t, mg x = some (.str z t)
def GlV (mg : Str → Option Value) (x : Str) (v : V) : Prop := ∃ u, mg x = some u ∧ RelV v u
section
variable {X : Cx} {x : Str} {pos : Pos}
theorem pe_gi {i : Int} (h : GlI X.mg x i) (hg : Gl X x) (hd : (x == ("__debug__" : Str)) = false := by decide) : PE X (.Name x pos) (tC (.int i)) := by
  obtain ⟨t, e⟩ := h
  exact pe_glob hg e ⟨t, rfl⟩ hd
theorem pe_gs {z : Str} (h : GlS X.mg x z) (hg : Gl X x) (hd : (x == ("__debug__" : Str)) = false := by decide) : PE X (.Name x pos) (tC (.str z)) := by
  obtain ⟨t, e⟩ := h
  exact pe_glob hg e ⟨t, rfl⟩ hd
theorem pe_gv {v : V} (h : GlV X.mg x v) (hg : Gl X x) (hd : (x == ("__debug__" : Str)) = false := by decide) : PE X (.Name x pos) (tC v) := by
  obtain ⟨u, e, r⟩ := h
  exact pe_glob hg e r hd
end
theorem b_len : bootBuiltins "len" = some (.builtin "len") := by decide +kernel
theorem b_sum : bootBuiltins "sum" = some (.builtin "sum") := by decide +kernel
theorem b_all : bootBuiltins "all" = some (.builtin "all") := by decide +kernel
theorem b_any : bootBuiltins "any" = some (.builtin "any") := by decide +kernel
theorem b_max : bootBuiltins "max" = some (.builtin "max") := by decide +kernel
theorem b_min : bootBuiltins "min" = some (.builtin "min") := by decide +kernel
theorem b_sorted : bootBuiltins "sorted" = some (.builtin "sorted") := by decide +kernel
theorem b_isinstance : bootBuiltins "isinstance" = some (.builtin "isinstance") := by decide +kernel
theorem b_int : bootBuiltins "int" = some (.type "int") := by decide +kernel
theorem b_str : bootBuiltins "str" = some (.type "str") := by decide +kernel
theorem b_list : bootBuiltins "list" = some (.type "list") := by decide +kernel
theorem b_tuple : bootBuiltins "tuple" = some (.type "tuple") := by decide +kernel
theorem b_set : bootBuiltins "set" = some (.type "set") := by decide +kernel
theorem b_dict : bootBuiltins "dict" = some (.type "dict") := by decide +kernel
theorem b_bool : bootBuiltins "bool" = some (.type "bool") := by decide +kernel

/-! ### more by values -/
section
variable {P : Program} {w : World} {K : PySem.W.Frag} {H B : Hp} {Q : VK} {F : Ent} {L L1 L2 : Led}
theorem v_ixL {p : Addr} {xs : List V} {i : Int} {v : V} (h : SqL K H p xs) (ha : atI xs i = some v) (k : Q v H) : IxU P w K (.ref p) (.int i) H Q := .ofK (r := rIxL) (fun _ _ => ix_list) ⟨p, xs, i, v, rfl, rfl, h, ha, k⟩
theorem v_ixT {p : Addr} {xs : List V} {i : Int} {v : V} (h : SqT K H p xs) (ha : atI xs i = some v) (k : Q v H) : IxU P w K (.ref p) (.int i) H Q := .ofK (r := rIxT) (fun _ _ => ix_tup) ⟨p, xs, i, v, rfl, rfl, h, ha, k⟩
theorem v_ixS {z : Str} {i : Int} {c : Nat} (hz : z.length ≤ sizeLine) (ha : atI z.cps.toList i = some c) (k : Q (.str ⟨#[c]⟩) H) : IxU P w K (.str z) (.int i) H Q := .of (fun _ _ => ix_str) ⟨z, i, c, rfl, rfl, hz, ha, k⟩
theorem v_ixD {p : Addr} {y v : V} (h : DGet H p y (some v)) (k : Q v H) : IxU P w K (.ref p) y H Q := .of (fun _ al => ix_dict al.hu) ⟨p, v, rfl, h, k⟩
theorem v_getD {p : Addr} {y v : V} (h : DGet H p y (some v)) (k : Q v H) : GetU P w K (.ref p) y H Q := by
  intro X pins s σ ov iv al I r1 r2
  obtain rfl : ov = Value.ref p := r1
  exact d_getItem al.hu I h r2 fun w' s' I' r' => ⟨v, H, I', r', k⟩
theorem v_setD {p : Addr} {y v : V} {H' : Hp} {Q : Hp → Prop} (h : DPut H p y v H') (k : Q H') : SetU P w K (.ref p) y v H Q := .of (fun _ al => set_dict al.hu) ⟨p, H', rfl, h, k⟩
theorem v_inD {p : Addr} {y : V} {o : Option V} (h : DGet H p y o) (k : Q (.bl o.isSome) H) : OpU P w K (compareOp .In) y (.ref p) H Q := .of (fun _ al => op_dIn al.hu) ⟨p, o, rfl, h, k⟩
theorem v_notInD {p : Addr} {y : V} {o : Option V} (h : DGet H p y o) (k : Q (.bl (!o.isSome)) H) : OpU P w K (compareOp .NotIn) y (.ref p) H Q := .of (fun _ al => op_dNotIn al.hu) ⟨p, o, rfl, h, k⟩
theorem v_get2 {p : Addr} {y d : V} {o : Option V} (h : DGet H p y o) (k : Q (o.getD d) H) : MetU P w K "dict.get" (.ref p) [y, d] H Q := .of (fun _ al => mt_get al.hu) ⟨p, y, d, o, rfl, rfl, h, k⟩
/-- one's own list, changed -/
theorem v_append {p : Addr} {xs : List V} {y : V} (S : Ok F B ((p, .lst xs) :: L) H) (hz : xs.length < sizeLine) (k : ∀ H', Ok F B ((p, .lst (xs ++ [y])) :: L) H' → Q .non H') : MetU P w K "list.append" (.ref p) [y] H Q :=
  .of (fun _ _ => mt_append) ⟨p, xs, y, rfl, rfl, (S.own _ (List.mem_cons_self ..)).1, hz, k _ S.mut⟩
theorem v_setL {p : Addr} {xs : List V} {i : Int} {j : Nat} {y : V} {Q : Hp → Prop} (S : Ok F B ((p, .lst xs) :: L) H) (hj : ixN xs.length i = some j) (k : ∀ H', Ok F B ((p, .lst (xs.set j y)) :: L) H' → Q H') : SetU P w K (.ref p) (.int i) y H Q :=
  .of (fun _ _ => set_list) ⟨p, xs, i, j, rfl, rfl, (S.own _ (List.mem_cons_self ..)).1, hj, k _ S.mut⟩
theorem v_cat {p q : Addr} {xs zs : List V} (S : Ok F B L H) (h1 : H p = some (.lst xs)) (h2 : H q = some (.lst zs)) (hz : xs.length + zs.length ≤ sizeLine) (k : ∀ r H', Ok F B ((r, .lst (xs ++ zs)) :: L) H' → Q (.ref r) H') : OpU P w K (binaryOp .Add) (.ref p) (.ref q) H Q :=
  .of (fun _ _ => op_cat) ⟨p, q, xs, zs, rfl, rfl, h1, h2, hz, fun r hr => k r _ (S.newL hr)⟩
theorem v_len {x : V} {n : Nat} (h : LenV K x H n) (k : Q (.int n) H) : CallU P w K (.builtin "len") [x] H Q := .ofK (r := fun K xs H Q => ∃ x n, xs = [x] ∧ LenV K x H n ∧ Q (.int n) H) (fun _ _ => call_len) ⟨x, n, rfl, h, k⟩
theorem v_max2 {i j : Int} (k : Q (.int (if j > i then j else i)) H) : CallU P w K (.builtin "max") [.int i, .int j] H Q := .of (fun _ al => call_max2 al.calm) ⟨i, j, rfl, k⟩
theorem v_min2 {i j : Int} (k : Q (.int (if j < i then j else i)) H) : CallU P w K (.builtin "min") [.int i, .int j] H Q := .of (fun _ al => call_min2 al.calm) ⟨i, j, rfl, k⟩
theorem v_listOf {p : Addr} {xs : List V} (S : Ok F B L H) (h : SqL K H p xs ∨ SqT K H p xs) (k : ∀ r H', Ok F B ((r, .lst xs) :: L) H' → Q (.ref r) H') : CallU P w K (.type "list") [.ref p] H Q :=
  .ofK (r := fun K vs H Q => ∃ p ys, vs = [.ref p] ∧ (SqL K H p ys ∨ SqT K H p ys) ∧ ∀ l, H l = none → Q (.ref l) (upd H l (.lst ys))) (fun _ _ => call_list_of) ⟨p, xs, rfl, h, fun l hl => k l _ (S.newL hl)⟩
end
/-! new things -/
section
variable {σ : L2.St} {H B : Hp} {Q : VK} {F : Ent} {L : Led} {t : TA}
def NewT (xs : List V) (H : Hp) (Q : VK) : Prop := xs.length ≤ sizeLine ∧ ∀ p, H p = none → Q (.ref p) (upd H p (.tup xs))
def NewL (xs : List V) (H : Hp) (Q : VK) : Prop := xs.length ≤ sizeLine ∧ ∀ p, H p = none → Q (.ref p) (upd H p (.lst xs))
theorem r_tup (k : t σ H fun xs H1 => NewT xs H1 Q) : tTup t σ H Q := k
theorem r_lst (k : t σ H fun xs H1 => NewL xs H1 Q) : tLst t σ H Q := k
theorem new_tup {xs : List V} (S : Ok F B L H) (hz : xs.length ≤ sizeLine) (k : ∀ p B' H', Ex B B' → B' p = some (.tup xs) → Ok F B' L H' → Q (.ref p) H') : NewT xs H Q :=
  ⟨hz, fun p hp => k p _ _ (S.exB hp) upd_same (S.newB hp)⟩
theorem new_lst {xs : List V} (S : Ok F B L H) (hz : xs.length ≤ sizeLine) (k : ∀ p H', Ok F B ((p, .lst xs) :: L) H' → Q (.ref p) H') : NewL xs H Q :=
  ⟨hz, fun p hp => k p _ (S.newL hp)⟩
theorem new_dK (S : Ok F B L H) (k : ∀ p H', Ok F B ((p, .dK []) :: L) H' → Q (.ref p) H') : tDNewK σ H Q := fun p hp => k p _ (S.newL hp)
theorem new_dT (S : Ok F B L H) (k : ∀ p H', Ok F B ((p, .dT []) :: L) H' → Q (.ref p) H') : tDNewT σ H Q := fun p hp => k p _ (S.newL hp)
end
theorem Ok.sub {F : Ent} {B H : Hp} {L1 L2 : Led} (S : Ok F B (L1 ++ L2) H) : Ok ⟨B, H, L1.map (·.1)⟩ B L1 H :=
  Ok.start S.ex (by have := S.nd; rw [List.map_append, List.nodup_append] at this; exact this.1) fun q hq => S.own q (List.mem_append_left _ hq)
end WK
namespace WK
open PySem PySem.Spec PyProof.Rows L2
theorem with_al {P : Program} {w : World} {K : PySem.W.Frag} {X : Cx} {k : Nat} {sts : List Stmt} {D : Ends} {σ : L2.St} {H : Hp} (hr : Room k X.A) (h : Al P w K X → ∃ t, PSs X sts t ∧ t D σ H) (h1 : X.prog = P := by rfl) (h2 : X.w = w := by rfl) (h3 : X.K = K := by rfl) (h4 : X.calm = true := by rfl) :
    ∃ t, PSs X sts t ∧ t D σ H := h (al_of hr h1 h2 h3 h4)
section
variable {P : Program} {w : World} {K : PySem.W.Frag} {σ : L2.St} {H : Hp} {D : Ends} {g : TG} {tb : TS} {tg : Expr} {te : TE}
/-- for x in a list that the body leaves as it is -/
theorem r_forV (k : te σ H fun v H1 => ItU P w K tg v H1 fun J H1 => ∃ W : Nat → Nat → L2.St → Hp → Prop, (∃ m, W 0 m σ H1) ∧ ∀ i m σ H, W i m σ H →
      (J.stop i H ∧ D.nx σ H) ∨ (J.go i H ∧ ∃ N : L2.St → Hp → Prop, (∀ σ' H', N σ' H' → ∃ m', m' < m ∧ W (i + 1) m' σ' H') ∧ ∀ x H', J.yld i H x H' → g x σ H' fun σ2 H2 => tb { D with nx := N, ct := N, bk := D.nx } σ2 H2)) :
    tFor (iVal P w K tg te) g tb D σ H := k
theorem forL {a : Addr} {xs : List V} (hx : SqL K H a xs) (Pv : Nat → L2.St → Hp → Prop) (hl : ∀ i σ H, i ≤ xs.length → Pv i σ H → SqL K H a xs) (h0 : Pv 0 σ H)
    (hs : ∀ i x σ H, xs[i]? = some x → Pv i σ H → g x σ H fun σ2 H2 => tb { D with nx := Pv (i + 1), ct := Pv (i + 1), bk := D.nx } σ2 H2) (hd : ∀ σ H, Pv xs.length σ H → D.nx σ H) :
    ItU P w K tg (.ref a) H fun J H1 => ∃ W : Nat → Nat → L2.St → Hp → Prop, (∃ m, W 0 m σ H1) ∧ ∀ i m σ H, W i m σ H →
      (J.stop i H ∧ D.nx σ H) ∨ (J.go i H ∧ ∃ N : L2.St → Hp → Prop, (∀ σ' H', N σ' H' → ∃ m', m' < m ∧ W (i + 1) m' σ' H') ∧ ∀ x H', J.yld i H x H' → g x σ H' fun σ2 H2 => tb { D with nx := N, ct := N, bk := D.nx } σ2 H2) :=
  .list hx (for_list Pv h0 hl hs hd)
theorem forT {a : Addr} {xs : List V} (hx : SqT K H a xs) (Pv : Nat → L2.St → Hp → Prop) (hl : ∀ i σ H, i ≤ xs.length → Pv i σ H → SqT K H a xs) (h0 : Pv 0 σ H)
    (hs : ∀ i x σ H, xs[i]? = some x → Pv i σ H → g x σ H fun σ2 H2 => tb { D with nx := Pv (i + 1), ct := Pv (i + 1), bk := D.nx } σ2 H2) (hd : ∀ σ H, Pv xs.length σ H → D.nx σ H) :
    ItU P w K tg (.ref a) H fun J H1 => ∃ W : Nat → Nat → L2.St → Hp → Prop, (∃ m, W 0 m σ H1) ∧ ∀ i m σ H, W i m σ H →
      (J.stop i H ∧ D.nx σ H) ∨ (J.go i H ∧ ∃ N : L2.St → Hp → Prop, (∀ σ' H', N σ' H' → ∃ m', m' < m ∧ W (i + 1) m' σ' H') ∧ ∀ x H', J.yld i H x H' → g x σ H' fun σ2 H2 => tb { D with nx := N, ct := N, bk := D.nx } σ2 H2) :=
  .tup hx (for_tup Pv h0 hl hs hd)
end
end WK
namespace WK
open PySem PySem.Spec PyProof.Rows L2
section
variable {P : Program} {w : World} {K : PySem.W.Frag} {H B : Hp} {Q : VK} {F : Ent} {L L1 L2 : Led} {a : Addr} {xs : List V} {o : HO}
theorem Ok.mem (S : Ok F B L H) (h : (a, o) ∈ L) : H a = some o := (S.own _ h).1
theorem Ok.sqMem (S : Ok F B L H) (h : (a, HO.lst xs) ∈ L) : SqL K H a xs := .inl (.inl (S.own _ h).1)
theorem Ok.sqStay (S : Ok F B L H) (h : B a = some (.lst xs)) : SqL K H a xs := .inl (.inl (S.ex _ _ h))
theorem Ok.tqStay (S : Ok F B L H) (h : B a = some (.tup xs)) : SqT K H a xs := .inl (.inl (S.ex _ _ h))
theorem Ok.stay (S : Ok F B L H) (h : B a = some o) : H a = some o := S.ex _ _ h
theorem Ok.dp {v : V} {d : PyData} (S : Ok F B L H) (h : Dp K B v d) : Dp K H v d := h.up S.ex
theorem v_lenL (h : SqL K H a xs) (k : Q (.int xs.length) H) : CallU P w K (.builtin "len") [.ref a] H Q := v_len (.inl ⟨xs, h, rfl⟩) k
theorem v_lenT (h : SqT K H a xs) (k : Q (.int xs.length) H) : CallU P w K (.builtin "len") [.ref a] H Q := v_len (.inr ⟨xs, h, rfl⟩) k
theorem v_lenS {z : Str} (h : z.length ≤ sizeLine) (k : Q (.int z.length) H) : CallU P w K (.builtin "len") [.str z] H Q := v_len (n := z.length) ⟨h, rfl⟩ k
/-- an item of known data -/
theorem v_ixDT {v : V} {ds : List PyData} {d : PyData} {i : Int} {j : Nat} (S : Ok F B L H) (h : Dp K B v (.tuple ds)) (hi : i = (j : Int)) (hj : ds[j]? = some d) (k : ∀ u, Dp K B u d → Q u H) : IxU P w K v (.int i) H Q := by
  obtain ⟨a, xs, rfl, hq, ha⟩ := Dp.tup_inv h
  obtain ⟨u, hu, hd⟩ := ha.get' hj
  subst hi
  exact v_ixT (S.tqB hq) (atI_nat hu) (k u hd)
theorem v_ixDL {v : V} {ds : List PyData} {d : PyData} {i : Int} {j : Nat} (S : Ok F B L H) (h : Dp K B v (.list ds)) (hi : i = (j : Int)) (hj : ds[j]? = some d) (k : ∀ u, Dp K B u d → Q u H) : IxU P w K v (.int i) H Q := by
  obtain ⟨a, xs, rfl, hq, ha⟩ := Dp.lst_inv h
  obtain ⟨u, hu, hd⟩ := ha.get' hj
  subst hi
  exact v_ixL (S.sqB hq) (atI_nat hu) (k u hd)
theorem at_mod {n : Int} {m : Nat} (hm : 0 < m) {α : Type} {xs : List α} (hx : xs.length = m) (d : α) : ∃ j, j < m ∧ n % (m : Int) = (j : Int) ∧ atI xs (n % (m : Int)) = some (xs.getD j d) := by
  have h0 : 0 ≤ n % (m : Int) := Int.emod_nonneg _ (by omega)
  have h1 : n % (m : Int) < m := Int.emod_lt_of_pos _ (by omega)
  refine ⟨(n % (m : Int)).toNat, by omega, by omega, ?_⟩
  have e : n % (m : Int) = (((n % (m : Int)).toNat : Nat) : Int) := by omega
  rw [e]
  refine atI_nat ?_
  rw [Int.toNat_natCast, List.getD_eq_getElem?_getD]
  have hl : (n % (m : Int)).toNat < xs.length := by omega
  rw [List.getElem?_eq_getElem hl]
  rfl
theorem ixN_of {n j : Nat} {i : Int} (e : i = (j : Int)) (h : j < n) : ixN n i = some j := by
  subst e
  unfold ixN
  rw [if_pos (by omega), if_pos (by omega)]
  simp
theorem Ok.swap {p q : Addr × HO} (S : Ok F B (p :: q :: L) H) : Ok F B (q :: p :: L) H := S.perm (.swap ..)
end
end WK
namespace WK
open PySem PySem.Spec PyProof.Rows L2
section
variable {P : Program} {w : World} {K : PySem.W.Frag} {H B : Hp} {Q : VK} {F : Ent} {L L1 L2 : Led} {a p : Addr} {xs : List V} {o o' : HO}
theorem Ok.mutN (S : Ok F B L H) (n : Nat) (h : L[n]? = some (p, o)) : Ok F B (L.set n (p, o')) (upd H p o') := by
  obtain ⟨hn, e⟩ := List.getElem?_eq_some_iff.mp h
  have e1 : L = L.take n ++ (p, o) :: L.drop (n + 1) := by rw [← e, List.getElem_cons_drop, List.take_append_drop]
  have e2 : L.set n (p, o') = L.take n ++ (p, o') :: L.drop (n + 1) := by rw [List.set_eq_take_append_cons_drop, if_pos hn]
  rw [e2]
  rw [e1] at S
  exact S.mutAt
theorem v_appendN {y : V} (n : Nat) (S : Ok F B L H) (h : L[n]? = some (p, .lst xs)) (hz : xs.length < sizeLine) (k : ∀ H', Ok F B (L.set n (p, .lst (xs ++ [y]))) H' → Q .non H') : MetU P w K "list.append" (.ref p) [y] H Q :=
  .of (fun _ _ => mt_append) ⟨p, xs, y, rfl, rfl, (S.own _ (List.mem_of_getElem? h)).1, hz, k _ (S.mutN n h)⟩
theorem v_setLN {i : Int} {j : Nat} {y : V} {Q : Hp → Prop} (n : Nat) (S : Ok F B L H) (h : L[n]? = some (p, .lst xs)) (hj : ixN xs.length i = some j) (k : ∀ H', Ok F B (L.set n (p, .lst (xs.set j y))) H' → Q H') : SetU P w K (.ref p) (.int i) y H Q :=
  .of (fun _ _ => set_list) ⟨p, xs, i, j, rfl, rfl, (S.own _ (List.mem_of_getElem? h)).1, hj, k _ (S.mutN n h)⟩
theorem v_setKN {kvs : List (Key × V)} {y v : V} {k : Key} {Q : Hp → Prop} (n : Nat) (S : Ok F B L H) (h : L[n]? = some (p, .dK kvs)) (hy : y = kV k) (hz : kvs.length < sizeLine) (q : ∀ H', Ok F B (L.set n (p, .dK (putK kvs k v))) H' → Q H') : SetU P w K (.ref p) y v H Q := by
  subst hy
  exact v_setD (DPut.k (S.own _ (List.mem_of_getElem? h)).1 hz) (q _ (S.mutN n h))
end
end WK
namespace WK
open PySem PySem.Spec PyProof.Rows L2
section
variable {F : Ent} {B B0 H H0 : Hp} {L : Led} {a : Addr} {o : HO}
/-- what stood at an entry whose own things may not change -/
theorem Ok.kept (S : Ok ⟨B0, H0, []⟩ B L H) (h : H0 a = some o) : H a = some o := S.keep a o h (by simp)
theorem Ok.keptRd (S : Ok ⟨B0, H0, []⟩ B L H) (h : Rd H0 a o) : Rd H a o := by
  rcases h with h | ⟨u, h⟩
  · exact .inl (S.kept h)
  · exact .inr ⟨u, S.kept h⟩
theorem dgetK {kvs : List (Key × V)} {k : Key} (e : Rd H a (.dK kvs)) : DGet H a (kV k) (valV kvs k) := .inl ⟨kvs, k, e, rfl, rfl⟩
theorem dgetS {kvs : List (Key × V)} {k : Str} (e : Rd H a (.dK kvs)) : DGet H a (.str k) (valV kvs (.inr k)) := .inl ⟨kvs, .inr k, e, rfl, rfl⟩
theorem dgetI {kvs : List (Key × V)} {k : Int} (e : Rd H a (.dK kvs)) : DGet H a (.int k) (valV kvs (.inl k)) := .inl ⟨kvs, .inl k, e, rfl, rfl⟩
end
end WK
namespace WK
open PySem PySem.Spec PyProof.Rows L2
section
variable {P : Program} {w : World} {K : PySem.W.Frag} {F : Ent} {B H : Hp} {L : Led} {a : Addr} {o : HO} {od : Obj} {Q : VK} {kvs : List (Key × V)}
theorem Ok.rdMem (S : Ok F B L H) (h : (a, o) ∈ L) : Rd H a o := .inl (S.own _ h).1
theorem Ok.rdMemF (S : Ok F B L H) (h : (a, HO.frz od o) ∈ L) : Rd H a o := .inr ⟨od, (S.own _ h).1⟩
theorem Ok.rdStay (S : Ok F B L H) (h : B a = some o) : Rd H a o := .inl (S.ex _ _ h)
theorem Ok.rdStayF (S : Ok F B L H) (h : B a = some (.frz od o)) : Rd H a o := .inr ⟨od, S.ex _ _ h⟩
theorem v_inDS {z : Str} (h : Rd H a (.dK kvs)) (k : Q (.bl (valV kvs (.inr z)).isSome) H) : OpU P w K (compareOp .In) (.str z) (.ref a) H Q := v_inD (dgetS h) k
theorem v_inDI {z : Int} (h : Rd H a (.dK kvs)) (k : Q (.bl (valV kvs (.inl z)).isSome) H) : OpU P w K (compareOp .In) (.int z) (.ref a) H Q := v_inD (dgetI h) k
theorem v_notInDS {z : Str} (h : Rd H a (.dK kvs)) (k : Q (.bl (!(valV kvs (.inr z)).isSome)) H) : OpU P w K (compareOp .NotIn) (.str z) (.ref a) H Q := v_notInD (dgetS h) k
theorem v_ixDS {z : Str} {v : V} (h : Rd H a (.dK kvs)) (e : valV kvs (.inr z) = some v) (k : Q v H) : IxU P w K (.ref a) (.str z) H Q := v_ixD (by rw [← e]; exact dgetS h) k
theorem v_ixDI {z : Int} {v : V} (h : Rd H a (.dK kvs)) (e : valV kvs (.inl z) = some v) (k : Q v H) : IxU P w K (.ref a) (.int z) H Q := v_ixD (by rw [← e]; exact dgetI h) k
theorem v_getDS {z : Str} {v : V} (h : Rd H a (.dK kvs)) (e : valV kvs (.inr z) = some v) (k : Q v H) : GetU P w K (.ref a) (.str z) H Q := v_getD (by rw [← e]; exact dgetS h) k
theorem v_get2S {z : Str} {d : V} (h : Rd H a (.dK kvs)) (k : Q ((valV kvs (.inr z)).getD d) H) : MetU P w K "dict.get" (.ref a) [.str z, d] H Q := v_get2 (dgetS h) k
theorem v_get2I {z : Int} {d : V} (h : Rd H a (.dK kvs)) (k : Q ((valV kvs (.inl z)).getD d) H) : MetU P w K "dict.get" (.ref a) [.int z, d] H Q := v_get2 (dgetI h) k
theorem v_ipAdd {i j : Int} (k : Q (.int (i + j)) H) : IpU P w K .Add (.int i) (.int j) H Q := .of (fun _ _ => ip_add) ⟨i, j, rfl, rfl, k⟩
theorem v_ipSub {i j : Int} (k : Q (.int (i - j)) H) : IpU P w K .Sub (.int i) (.int j) H Q := .of (fun _ _ => ip_sub) ⟨i, j, rfl, rfl, k⟩
theorem valV_some_iff {κ : Type} [DecidableEq κ] {kvs : List (κ × V)} {k : κ} : (valV kvs k).isSome = true ↔ k ∈ kvs.map (·.1) := by
  unfold valV
  rw [Option.isSome_map, List.find?_isSome]
  simp only [decide_eq_true_eq, List.mem_map]
theorem valV_isSome_false {κ : Type} [DecidableEq κ] {kvs : List (κ × V)} {k : κ} (h : k ∉ kvs.map (·.1)) : (valV kvs k).isSome = false := by
  cases e : (valV kvs k).isSome with
  | false => rfl
  | true => exact absurd (valV_some_iff.mp e) h
theorem valV_isSome_true {κ : Type} [DecidableEq κ] {kvs : List (κ × V)} {k : κ} (h : k ∈ kvs.map (·.1)) : (valV kvs k).isSome = true := valV_some_iff.mpr h
end
end WK
namespace WK
theorem ifTT {A B : Prop} (k : A) : if true = true then A else B := by rw [if_pos rfl]; exact k
theorem ifFF {A B : Prop} (k : B) : if false = true then A else B := by rw [if_neg Bool.false_ne_true]; exact k
theorem ifNT {A B : Prop} (k : B) : if (!true) = true then A else B := by rw [if_neg (by decide)]; exact k
theorem ifNF {A B : Prop} (k : A) : if (!false) = true then A else B := by rw [if_pos (by decide)]; exact k
theorem ifnd {c : Prop} {inst : Decidable c} {A B : Prop} (h1 : c → B) (h2 : ¬ c → A) : if (!decide c) = true then A else B := by
  by_cases h : c
  · rw [decide_eq_true h]; exact ifNT (h1 h)
  · rw [decide_eq_false h]; exact ifNF (h2 h)
theorem ifndT {c : Prop} {inst : Decidable c} {A B : Prop} (h : c) (k : B) : if (!decide c) = true then A else B := by rw [decide_eq_true h]; exact ifNT k
theorem ifndF {c : Prop} {inst : Decidable c} {A B : Prop} (h : ¬ c) (k : A) : if (!decide c) = true then A else B := by rw [decide_eq_false h]; exact ifNF k
end WK
namespace WK
open PySem PySem.Spec PyProof.Rows L2
/-- the slots with one set, written out -/
inductive SlotSet : L2.St → Nat → Option V → L2.St → Prop where
  | zero {x v : Option V} {l : L2.St} : SlotSet (x :: l) 0 v (v :: l)
  | succ {x v : Option V} {l l' : L2.St} {i : Nat} : SlotSet l i v l' → SlotSet (x :: l) (i + 1) v (x :: l')
theorem SlotSet.eq {l l' : L2.St} {i : Nat} {v : Option V} (h : SlotSet l i v l') : l.set i v = l' := by
  induction h with
  | zero => rfl
  | succ _ ih => rw [List.set_cons_succ, ih]
theorem r_nameS {i : Nat} {v : V} {σ σ' : L2.St} {H : Hp} {Q : L2.St → Hp → Prop} (h : SlotSet σ i (some v) σ') (k : Q σ' H) : gName i v σ H Q := by
  unfold gName
  rw [h.eq]
  exact k
end WK

namespace WK
open PySem PySem.Spec PyProof.Rows L2
/-! ### what is walked, told by data -/
def ForW (g : TG) (tb : TS) (D : Ends) (σ : L2.St) : It → Hp → Prop := fun J H1 => ∃ W : Nat → Nat → L2.St → Hp → Prop, (∃ m, W 0 m σ H1) ∧ ∀ i m σ H, W i m σ H →
  (J.stop i H ∧ D.nx σ H) ∨ (J.go i H ∧ ∃ N : L2.St → Hp → Prop, (∀ σ' H', N σ' H' → ∃ m', m' < m ∧ W (i + 1) m' σ' H') ∧ ∀ x H', J.yld i H x H' → g x σ H' fun σ2 H2 => tb { D with nx := N, ct := N, bk := D.nx } σ2 H2)
def LcW (g : TG) (tt : TT) (te : TE) (vs : List Nat) (σ : L2.St) (Q : VK) : It → Hp → Prop := fun J H1 => ∀ D, H1 D = none → ∃ W : Nat → Nat → Hp → Prop, (∃ m, W 0 m (upd H1 D (.lst []))) ∧ ∀ i m H, W i m H →
  (J.stop i H ∧ Q (.ref D) H) ∨ (J.go i H ∧ ∃ Nx : Hp → Prop, (∀ H', Nx H' → ∃ m', m' < m ∧ W (i + 1) m' H') ∧ ∀ x H', J.yld i H x H' → g x (wipe σ vs) H' fun σ2 H2 => wipe σ2 vs = wipe σ vs ∧ tt σ2 H2 fun b H3 =>
    if b = true then te σ2 H3 fun y H4 => ∃ acc, H4 D = some (.lst acc) ∧ acc.length < sizeLine ∧ Nx (upd H4 D (.lst (acc ++ [y]))) else Nx H3)
def DcW (g : TG) (tt : TT) (tk tv : TE) (vs : List Nat) (σ : L2.St) (Q : VK) : It → Hp → Prop := fun J H1 => ∀ D, H1 D = none → ∃ W : Nat → Nat → Hp → Prop, (∃ m, W 0 m (upd H1 D (.dK []))) ∧ ∀ i m H, W i m H →
  (J.stop i H ∧ Q (.ref D) H) ∨ (J.go i H ∧ ∃ Nx : Hp → Prop, (∀ H', Nx H' → ∃ m', m' < m ∧ W (i + 1) m' H') ∧ ∀ x H', J.yld i H x H' → g x (wipe σ vs) H' fun σ2 H2 => wipe σ2 vs = wipe σ vs ∧ tt σ2 H2 fun b H3 =>
    if b = true then tk σ2 H3 fun y H4 => tv σ2 H4 fun z H5 => ∃ kvs k, y = kV k ∧ H5 D = some (.dK kvs) ∧ kvs.length < sizeLine ∧ Nx (upd H5 D (.dK (putK kvs k z))) else Nx H3)
structure Src {α : Type} (J : It) (GB : Hp → Led → Prop) (as : List α) (R : Hp → V → α → Prop) : Prop where
  ex : ∃ (G : Hp → Prop) (Y : Nat → Hp → V → Hp → Prop), Walk J as.length G Y ∧ (∀ F B L H, Ok F B L H → GB B L → G H) ∧
    ∀ F B L i H x H', Ok F B L H → GB B L → Y i H x H' → i < as.length → ∃ a B', as[i]? = some a ∧ Ex B B' ∧ Ok F B' L H' ∧ R B' x a
section
variable {α : Type} {J : It} {GB : Hp → Led → Prop} {as : List α} {R : Hp → V → α → Prop} {F : Ent} {B H H1 : Hp} {L : Led} {σ : L2.St}
/-- what a turn of a loop is to reach -/
def Nxt (F : Ent) (I : L2.St → Hp → Led → Prop) : L2.St → Hp → Prop := fun σ H => ∃ B L, Ok F B L H ∧ I σ B L
theorem Nxt.mk {I : L2.St → Hp → Led → Prop} (S : Ok F B L H) (h : I σ B L) : Nxt F I σ H := ⟨B, L, S, h⟩
theorem forD (src : Src J GB as R) {g : TG} {tb : TS} {D : Ends} (S : Ok F B L H) (I : Nat → L2.St → Hp → Led → Prop) (h0 : I 0 σ B L) (hG : ∀ i σ B L, i ≤ as.length → I i σ B L → GB B L)
    (hs : ∀ i a x σ B0 B L H, as[i]? = some a → I i σ B0 L → Ex B0 B → Ok F B L H → R B x a → g x σ H fun σ2 H2 => tb { D with nx := Nxt F (I (i + 1)), ct := Nxt F (I (i + 1)), bk := D.nx } σ2 H2)
    (hd : ∀ σ B L H, I as.length σ B L → Ok F B L H → D.nx σ H) :
    ForW g tb D σ J H := by
  obtain ⟨G, Y, w, h1, h2⟩ := src.ex
  refine for_it w (fun i => Nxt F (I i)) (.mk S h0) (fun i σ H hi ⟨B, L, S, q⟩ => h1 F B L H S (hG i σ B L hi q)) (fun i x σ H H' hi ⟨B, L, S, q⟩ y => ?_) (fun σ H ⟨B, L, S, q⟩ => hd σ B L H q S)
  obtain ⟨a, B', e, ex, S', r⟩ := h2 F B L i H x H' S (hG i σ B L (Nat.le_of_lt hi) q) y hi
  exact hs i a x σ B B' L H' e q ex S' r
/-- what an element of a comprehension is to reach: the new list at D holds acc, then one more -/
def Acc (F : Ent) (I : List V → Hp → Led → Prop) (D : Addr) : VK := fun y H => ∃ acc, H D = some (.lst acc) ∧ acc.length < sizeLine ∧ ∃ acc' B L, Ok F B ((D, .lst acc') :: L) (upd H D (.lst (acc ++ [y]))) ∧ I acc' B L
def Skp (F : Ent) (I : List V → Hp → Led → Prop) (D : Addr) : Hp → Prop := fun H => ∃ acc' B L, Ok F B ((D, .lst acc') :: L) H ∧ I acc' B L
theorem Acc.mk {I : List V → Hp → Led → Prop} {D : Addr} {acc : List V} {y : V} (S : Ok F B ((D, .lst acc) :: L) H) (hz : acc.length < sizeLine) (h : I (acc ++ [y]) B L) : Acc F I D y H :=
  ⟨acc, (S.own _ (List.mem_cons_self ..)).1, hz, _, B, L, S.mut, h⟩
theorem Skp.mk {I : List V → Hp → Led → Prop} {D : Addr} {acc : List V} (S : Ok F B ((D, .lst acc) :: L) H) (h : I acc B L) : Skp F I D H := ⟨acc, B, L, S, h⟩
theorem lcD (src : Src J GB as R) {g : TG} {tt : TT} {te : TE} {vs : List Nat} {Q : VK} (S : Ok F B L H1) (I : Nat → List V → Hp → Led → Prop) (h0 : I 0 [] B L) (hG : ∀ i acc B L D, i ≤ as.length → I i acc B L → GB B ((D, .lst acc) :: L))
    (hs : ∀ i a x acc B0 B L D H, as[i]? = some a → I i acc B0 L → Ex B0 B → Ok F B ((D, .lst acc) :: L) H → R B x a → g x (wipe σ vs) H fun σ2 H2 => wipe σ2 vs = wipe σ vs ∧ tt σ2 H2 fun b H3 =>
      if b = true then te σ2 H3 (Acc F (I (i + 1)) D) else Skp F (I (i + 1)) D H3)
    (hd : ∀ acc B L D H, I as.length acc B L → Ok F B ((D, .lst acc) :: L) H → Q (.ref D) H) :
    LcW g tt te vs σ Q J H1 := by
  intro D hD
  obtain ⟨G, Y, w, h1, h2⟩ := src.ex
  refine lc_it w (fun i H => ∃ acc B L, Ok F B ((D, .lst acc) :: L) H ∧ I i acc B L) ⟨[], B, L, S.newL hD, h0⟩ (fun i H hi ⟨acc, B, L, S, q⟩ => h1 F B _ H S (hG i acc B L D hi q)) (fun i x H H' hi ⟨acc, B, L, S, q⟩ y => ?_) (fun H ⟨acc, B, L, S, q⟩ => hd acc B L D H q S)
  obtain ⟨a, B', e, ex, S', r⟩ := h2 F B _ i H x H' S (hG i acc B L D (Nat.le_of_lt hi) q) y hi
  exact hs i a x acc B B' L D H' e q ex S' r
/-- .. of a dict -/
def AccD (F : Ent) (I : List (Key × V) → Hp → Led → Prop) (D : Addr) (y : V) : VK := fun z H => ∃ kvs k, y = kV k ∧ H D = some (.dK kvs) ∧ kvs.length < sizeLine ∧ ∃ kvs' B L, Ok F B ((D, .dK kvs') :: L) (upd H D (.dK (putK kvs k z))) ∧ I kvs' B L
def SkpD (F : Ent) (I : List (Key × V) → Hp → Led → Prop) (D : Addr) : Hp → Prop := fun H => ∃ kvs' B L, Ok F B ((D, .dK kvs') :: L) H ∧ I kvs' B L
theorem AccD.mk {I : List (Key × V) → Hp → Led → Prop} {D : Addr} {kvs : List (Key × V)} {y z : V} {k : Key} (S : Ok F B ((D, .dK kvs) :: L) H) (e : y = kV k) (hz : kvs.length < sizeLine) (h : I (putK kvs k z) B L) : AccD F I D y z H :=
  ⟨kvs, k, e, (S.own _ (List.mem_cons_self ..)).1, hz, _, B, L, S.mut, h⟩
theorem SkpD.mk {I : List (Key × V) → Hp → Led → Prop} {D : Addr} {kvs : List (Key × V)} (S : Ok F B ((D, .dK kvs) :: L) H) (h : I kvs B L) : SkpD F I D H := ⟨kvs, B, L, S, h⟩
theorem dc_it {n : Nat} {G : Hp → Prop} {Y : Nat → Hp → V → Hp → Prop} (w : Walk J n G Y) {g : TG} {tt : TT} {tk tv : TE} {vs : List Nat} {D : Addr} {Qd : Hp → Prop} (Pv : Nat → Hp → Prop) (h0 : Pv 0 (upd H1 D (.dK []))) (hG : ∀ i H, i ≤ n → Pv i H → G H)
    (hs : ∀ i x H H', i < n → Pv i H → Y i H x H' → g x (wipe σ vs) H' fun σ2 H2 => wipe σ2 vs = wipe σ vs ∧ tt σ2 H2 fun b H3 =>
      if b = true then tk σ2 H3 fun y H4 => tv σ2 H4 fun z H5 => ∃ kvs k, y = kV k ∧ H5 D = some (.dK kvs) ∧ kvs.length < sizeLine ∧ Pv (i + 1) (upd H5 D (.dK (putK kvs k z))) else Pv (i + 1) H3) (hd : ∀ H, Pv n H → Qd H) :
    ∃ W : Nat → Nat → Hp → Prop, (∃ m, W 0 m (upd H1 D (.dK []))) ∧ ∀ i m H, W i m H →
      (J.stop i H ∧ Qd H) ∨ (J.go i H ∧ ∃ Nx : Hp → Prop, (∀ H', Nx H' → ∃ m', m' < m ∧ W (i + 1) m' H') ∧ ∀ x H', J.yld i H x H' → g x (wipe σ vs) H' fun σ2 H2 => wipe σ2 vs = wipe σ vs ∧ tt σ2 H2 fun b H3 =>
        if b = true then tk σ2 H3 fun y H4 => tv σ2 H4 fun z H5 => ∃ kvs k, y = kV k ∧ H5 D = some (.dK kvs) ∧ kvs.length < sizeLine ∧ Nx (upd H5 D (.dK (putK kvs k z))) else Nx H3) := by
  refine ⟨fun i m H => m = n - i ∧ i ≤ n ∧ Pv i H, ⟨n, by simp, Nat.zero_le _, h0⟩, ?_⟩
  rintro i m H ⟨rfl, hi, p⟩
  have q := hG i H hi p
  by_cases hlt : i < n
  · refine .inr ⟨w.goes i H hlt q, Pv (i + 1), fun H' p' => ⟨n - (i + 1), by omega, rfl, hlt, p'⟩, fun x H' y => hs i x H H' hlt p (w.yields i H x H' hlt q y)⟩
  · have e : i = n := by omega
    subst e
    exact .inl ⟨w.stops H q, hd H p⟩
theorem dcD (src : Src J GB as R) {g : TG} {tt : TT} {tk tv : TE} {vs : List Nat} {Q : VK} (S : Ok F B L H1) (I : Nat → List (Key × V) → Hp → Led → Prop) (h0 : I 0 [] B L) (hG : ∀ i acc B L D, i ≤ as.length → I i acc B L → GB B ((D, .dK acc) :: L))
    (hs : ∀ i a x acc B0 B L D H, as[i]? = some a → I i acc B0 L → Ex B0 B → Ok F B ((D, .dK acc) :: L) H → R B x a → g x (wipe σ vs) H fun σ2 H2 => wipe σ2 vs = wipe σ vs ∧ tt σ2 H2 fun b H3 =>
      if b = true then tk σ2 H3 fun y H4 => tv σ2 H4 (AccD F (I (i + 1)) D y) else SkpD F (I (i + 1)) D H3)
    (hd : ∀ acc B L D H, I as.length acc B L → Ok F B ((D, .dK acc) :: L) H → Q (.ref D) H) :
    DcW g tt tk tv vs σ Q J H1 := by
  intro D hD
  obtain ⟨G, Y, w, h1, h2⟩ := src.ex
  refine dc_it w (fun i H => ∃ acc B L, Ok F B ((D, .dK acc) :: L) H ∧ I i acc B L) ⟨[], B, L, S.newL hD, h0⟩ (fun i H hi ⟨acc, B, L, S, q⟩ => h1 F B _ H S (hG i acc B L D hi q)) (fun i x H H' hi ⟨acc, B, L, S, q⟩ y => ?_) (fun H ⟨acc, B, L, S, q⟩ => hd acc B L D H q S)
  obtain ⟨a, B', e, ex, S', r⟩ := h2 F B _ i H x H' S (hG i acc B L D (Nat.le_of_lt hi) q) y hi
  exact hs i a x acc B B' L D H' e q ex S' r
end

/-! sources -/
section
variable {α : Type} {K : PySem.W.Frag} {a d : Addr} {xs : List V} {o : Obj}
theorem src_lst {as : List α} {enc : α → PyData} : Src (Itl K a) (fun B L => (SqL K B a xs ∨ (a, HO.lst xs) ∈ L) ∧ DpAll K B xs (as.map enc)) as (fun B x y => Dp K B x (enc y)) := by
  by_cases hl : xs.length = as.length
  · refine ⟨_, _, hl ▸ walk_list (xs := xs), fun F B L H S g => ?_, fun F B L i H x H' S g y hi => ?_⟩
    · rcases g.1 with h | h
      · exact S.sqB h
      · exact S.sqMem h
    · obtain ⟨rfl, y⟩ := y
      obtain ⟨d, hd, hx⟩ := g.2.get y
      rw [List.getElem?_map] at hd
      cases e : as[i]? with
      | none => rw [e] at hd; cases hd
      | some z =>
        rw [e] at hd
        cases hd
        exact ⟨z, B, rfl, Ex.refl _, S, hx⟩
  · refine ⟨fun _ => False, fun _ _ _ _ => False, ⟨fun _ _ _ h => h.elim, fun _ h => h.elim, fun _ _ _ _ _ h => h.elim⟩, fun F B L H S g => hl ?_, fun F B L i H x H' S g y hi => y.elim⟩
    have := g.2.length
    rw [List.length_map] at this
    exact this
theorem src_tup {as : List α} {enc : α → PyData} : Src (Itt K a) (fun B _ => SqT K B a xs ∧ DpAll K B xs (as.map enc)) as (fun B x y => Dp K B x (enc y)) := by
  by_cases hl : xs.length = as.length
  · refine ⟨_, _, hl ▸ walk_tup (xs := xs), fun F B L H S g => S.tqB g.1, fun F B L i H x H' S g y hi => ?_⟩
    obtain ⟨rfl, y⟩ := y
    obtain ⟨d, hd, hx⟩ := g.2.get y
    rw [List.getElem?_map] at hd
    cases e : as[i]? with
    | none => rw [e] at hd; cases hd
    | some z =>
      rw [e] at hd
      cases hd
      exact ⟨z, B, rfl, Ex.refl _, S, hx⟩
  · refine ⟨fun _ => False, fun _ _ _ _ => False, ⟨fun _ _ _ h => h.elim, fun _ h => h.elim, fun _ _ _ _ _ h => h.elim⟩, fun F B L H S g => hl ?_, fun F B L i H x H' S g y hi => y.elim⟩
    have := g.2.length
    rw [List.length_map] at this
    exact this
theorem src_range {lo : Int} {n : Nat} : Src (Itr lo n) (fun _ _ => True) (List.range n) (fun _ x i => x = .int (lo + (i : Nat))) := by
  refine ⟨fun _ => True, YFn fun i => .int (lo + i), (by rw [List.length_range]; exact walk_range), fun F B L H S g => True.intro, fun F B L i H x H' S g y hi => ?_⟩
  obtain ⟨rfl, rfl⟩ := y
  rw [List.length_range] at hi
  exact ⟨i, B, by simp [hi], Ex.refl _, S, rfl⟩
theorem src_str {z : Str} : Src (Its z) (fun _ _ => True) z.cps.toList (fun _ x c => x = .str ⟨#[c]⟩) := by
  refine ⟨_, _, (by rw [Array.length_toList]; exact walk_str), fun F B L H S g => True.intro, fun F B L i H x H' S g y hi => ?_⟩
  obtain ⟨rfl, c, hc, rfl⟩ := y
  exact ⟨c, B, by simpa using hc, Ex.refl _, S, rfl⟩
/-- a dict that is locked -/
def Frz (d : Addr) (o : Obj) (kvs : List (Key × V)) (B : Hp) (L : Led) : Prop := B d = some (.frz o (.dK kvs)) ∨ (d, HO.frz o (.dK kvs)) ∈ L
theorem Frz.at {F : Ent} {B H : Hp} {L : Led} {kvs : List (Key × V)} (S : Ok F B L H) (h : Frz d o kvs B L) : H d = some (.frz o (.dK kvs)) := by
  rcases h with h | h
  · exact S.stay h
  · exact S.mem h
theorem src_keys {kvs : List (Key × V)} : Src (Itk d o kvs) (Frz d o kvs) (kvs.map (·.1)) (fun _ x k => x = kV k) := by
  refine ⟨_, _, (by rw [List.length_map]; exact walk_keys), fun F B L H S g => g.at S, fun F B L i H x H' S g y hi => ?_⟩
  obtain ⟨rfl, k, v, e, rfl⟩ := y
  exact ⟨k, B, by rw [List.getElem?_map, e]; rfl, Ex.refl _, S, rfl⟩
theorem src_values {kvs : List (Key × V)} : Src (Itd d o kvs) (Frz d o kvs) (kvs.map (·.2)) (fun _ x v => x = v) := by
  refine ⟨_, _, (by rw [List.length_map]; exact walk_values), fun F B L H S g => g.at S, fun F B L i H x H' S g y hi => ?_⟩
  obtain ⟨rfl, k, e⟩ := y
  exact ⟨x, B, by rw [List.getElem?_map, e]; rfl, Ex.refl _, S, rfl⟩
theorem src_items {kvs : List (Key × V)} : Src (Iti d o kvs) (Frz d o kvs) kvs (fun B x kv => ∃ T, x = .ref T ∧ B T = some (.tup [kV kv.1, kv.2])) := by
  refine ⟨_, _, walk_items, fun F B L H S g => g.at S, fun F B L i H x H' S g y hi => ?_⟩
  obtain ⟨T, x', y', rfl, n, rfl, e1, e2⟩ := y
  dsimp only at e1 e2
  cases e : kvs[i]? with
  | none => rw [e] at e1; cases e1
  | some kv =>
    rw [e] at e1 e2
    cases e1
    cases e2
    exact ⟨kv, upd B T (.tup [kV kv.1, kv.2]), rfl, S.exB n, S.newB n, T, rfl, upd_same⟩
theorem getElem_zipIdx {as : List α} {i : Nat} {z : α} (e : as[i]? = some z) : as.zipIdx[i]? = some (z, i) := by
  simp [List.getElem?_zipIdx, e]
/-- enumerate(a list) -/
theorem src_enum {as : List α} {enc : α → PyData} : Src (Ite K a) (fun B L => (SqL K B a xs ∨ (a, HO.lst xs) ∈ L) ∧ DpAll K B xs (as.map enc)) as.zipIdx (fun B x y => ∃ T u, x = .ref T ∧ B T = some (.tup [.int (y.2 : Nat), u]) ∧ Dp K B u (enc y.1)) := by
  by_cases hl : xs.length = as.length
  · refine ⟨_, _, (by rw [List.length_zipIdx]; exact hl ▸ walk_enum (xs := xs)), fun F B L H S g => ?_, fun F B L i H x H' S g y hi => ?_⟩
    · rcases g.1 with h | h
      · exact S.sqB h
      · exact S.sqMem h
    · obtain ⟨T, x', y', rfl, n, rfl, e1, e2⟩ := y
      cases e1
      obtain ⟨d, hd, hx⟩ := g.2.get e2
      rw [List.getElem?_map] at hd
      cases e : as[i]? with
      | none => rw [e] at hd; cases hd
      | some z =>
        rw [e] at hd
        cases hd
        exact ⟨(z, i), upd B T (.tup [.int (i : Nat), y']), getElem_zipIdx e, S.exB n, S.newB n, T, y', rfl, upd_same, hx.up (S.exB n)⟩
  · refine ⟨fun _ => False, fun _ _ _ _ => False, ⟨fun _ _ _ h => h.elim, fun _ h => h.elim, fun _ _ _ _ _ h => h.elim⟩, fun F B L H S g => hl ?_, fun F B L i H x H' S g y hi => y.elim⟩
    have := g.2.length
    rw [List.length_map] at this
    exact this
end

/-! readings of walks -/
section
variable {P : Program} {w : World} {K : PySem.W.Frag} {σ : L2.St} {H : Hp} {tg : Expr} {te tx : TE} {g : TG} {tb : TS} {tt : TT} {vs : List Nat} {D : Ends} {Q : VK} {R : It → Hp → Prop} {wi : TI} {ta : TA}
theorem r_for (k : wi σ H (ForW g tb D σ)) : tFor wi g tb D σ H := k
theorem r_lc (k : wi σ H (LcW g tt te vs σ Q)) : tLc wi g tt te vs σ H Q := k
theorem r_dc {tk tv : TE} (k : wi σ H (DcW g tt tk tv vs σ Q)) : tDc wi g tt tk tv vs σ H Q := k
theorem r_val (k : te σ H fun v H1 => ItU P w K tg v H1 R) : iVal P w K tg te σ H R := k
def RngQ (R : It → Hp → Prop) : List V → Hp → Prop := fun vs H => ∃ j : Int, vs = [.int j] ∧ -(2 ^ 62) ≤ j ∧ j < 2 ^ 62 ∧ R (Itr 0 j.toNat) H
theorem r_rng1 (k : ta σ H (RngQ R)) : iRng1 ta σ H R := k
theorem rngQ {j : Int} (h1 : -(2 ^ 62) ≤ j) (h2 : j < 2 ^ 62) (k : R (Itr 0 j.toNat) H) : RngQ R [.int j] H := ⟨j, rfl, h1, h2, k⟩
def StrQ (R : It → Hp → Prop) : V → Hp → Prop := fun v H => ∃ x, v = .str x ∧ R (Its x) H
theorem r_str (k : te σ H (StrQ R)) : iStr te σ H R := k
theorem strQ {z : Str} (k : R (Its z) H) : StrQ R (.str z) H := ⟨z, rfl, k⟩
def ItmQ (R : It → Hp → Prop) : V → Hp → Prop := fun x H1 => ∃ d o kvs, x = .ref d ∧ H1 d = some (.frz o (.dK kvs)) ∧ R (Iti d o kvs) H1
def KeyQ (R : It → Hp → Prop) : V → Hp → Prop := fun x H1 => ∃ d o, x = .ref d ∧ ((∃ kvs, H1 d = some (.frz o (.dK kvs)) ∧ R (Itk d o kvs) H1) ∨ ∃ kvs, H1 d = some (.frz o (.dT kvs)) ∧ R (Itkt d o kvs) H1)
def VlsQ (R : It → Hp → Prop) : V → Hp → Prop := fun x H1 => ∃ d o kvs, x = .ref d ∧ H1 d = some (.frz o (.dK kvs)) ∧ R (Itd d o kvs) H1
theorem r_items (k : te σ H (ItmQ R)) : iItems te σ H R := k
theorem r_keys (k : te σ H (KeyQ R)) : iKeys te σ H R := k
theorem r_values (k : te σ H (VlsQ R)) : iVals te σ H R := k
theorem itmQ {d : Addr} {o : Obj} {kvs : List (Key × V)} (h : H d = some (.frz o (.dK kvs))) (k : R (Iti d o kvs) H) : ItmQ R (.ref d) H := ⟨d, o, kvs, rfl, h, k⟩
theorem keyQ {d : Addr} {o : Obj} {kvs : List (Key × V)} (h : H d = some (.frz o (.dK kvs))) (k : R (Itk d o kvs) H) : KeyQ R (.ref d) H := ⟨d, o, rfl, .inl ⟨kvs, h, k⟩⟩
theorem vlsQ {d : Addr} {o : Obj} {kvs : List (Key × V)} (h : H d = some (.frz o (.dK kvs))) (k : R (Itd d o kvs) H) : VlsQ R (.ref d) H := ⟨d, o, kvs, rfl, h, k⟩
def EnuQ (K : PySem.W.Frag) (R : It → Hp → Prop) : List V → Hp → Prop := fun vs H1 => ∃ a xs, vs = [.ref a] ∧ SqL K H1 a xs ∧ R (Ite K a) H1
theorem r_enum (k : ta σ H (EnuQ K R)) : iEnum K ta σ H R := k
theorem enuQ {a : Addr} {xs : List V} (h : SqL K H a xs) (k : R (Ite K a) H) : EnuQ K R [.ref a] H := ⟨a, xs, rfl, h, k⟩
/-! a dict locked for a walk -/
def LckQ (d : Addr) (od : Obj) (u : HO) (Q : VK) : VK := fun v H' => H' d = some (.frz od u) ∧ Q v (upd H' d u)
theorem r_lockE {t : TE} {d : Addr} {u : HO} (h : H d = some u) (mu : Mut (some u)) (k : ∀ od, t σ (upd H d (.frz od u)) (LckQ d od u Q)) : tLockE t σ H Q := ⟨d, u, h, mu, k⟩
def LckD (d : Addr) (od : Obj) (u : HO) (D : Ends) : Ends := ⟨fun σ' H' => H' d = some (.frz od u) ∧ D.nx σ' (upd H' d u), fun v H' => H' d = some (.frz od u) ∧ D.rt v (upd H' d u), fun σ' H' => H' d = some (.frz od u) ∧ D.bk σ' (upd H' d u), fun σ' H' => H' d = some (.frz od u) ∧ D.ct σ' (upd H' d u)⟩
theorem r_lockS {t : TS} {d : Addr} {u : HO} (h : H d = some u) (mu : Mut (some u)) (k : ∀ od, t (LckD d od u D) σ (upd H d (.frz od u))) : tLock t D σ H := ⟨d, u, h, mu, k⟩
/-! targets -/
section
variable {F : Ent} {B : Hp} {L : Led} {gs : TGs} {n : Nat} {v : V} {QG : L2.St → Hp → Prop}
theorem r_gtupD {ds : List PyData} (S : Ok F B L H) (h : Dp K B v (.tuple ds)) (hn : ds.length = n) (k : ∀ vs, DpAll K B vs ds → gs vs σ H QG) : gTup K n gs v σ H QG := by
  obtain ⟨a, xs, rfl, hq, ha⟩ := Dp.tup_inv h
  exact ⟨a, xs, rfl, S.tqB hq, by rw [ha.length, hn], k xs ha⟩
theorem r_gtupSI {s : Str} {i : Int} (S : Ok F B L H) (h : Dp K B v (.tuple [.str s, .int i])) (k : gs [.str s, .int i] σ H QG) : gTup K 2 gs v σ H QG :=
  r_gtupD S h rfl fun vs ha => by
    obtain ⟨v1, r, rfl, h1, ha⟩ := ha.cons_inv
    obtain ⟨v2, r, rfl, h2, ha⟩ := ha.cons_inv
    obtain rfl := ha.nil_inv
    obtain rfl := h1.str_inv
    obtain rfl := h2.int_inv
    exact k
theorem r_gtupII {s i : Int} (S : Ok F B L H) (h : Dp K B v (.tuple [.int s, .int i])) (k : gs [.int s, .int i] σ H QG) : gTup K 2 gs v σ H QG :=
  r_gtupD S h rfl fun vs ha => by
    obtain ⟨v1, r, rfl, h1, ha⟩ := ha.cons_inv
    obtain ⟨v2, r, rfl, h2, ha⟩ := ha.cons_inv
    obtain rfl := ha.nil_inv
    obtain rfl := h1.int_inv
    obtain rfl := h2.int_inv
    exact k
theorem r_gtupB {a : Addr} {xs : List V} (S : Ok F B L H) (h : B a = some (.tup xs)) (hn : xs.length = n) (k : gs xs σ H QG) : gTup K n gs (.ref a) σ H QG := r_gtup (S.tqStay h) hn k
end
end
/-! more calls -/
section
variable {P : Program} {w : World} {K : PySem.W.Frag} {H B : Hp} {Q : VK} {F : Ent} {L : Led} {a : Addr}
theorem v_sum {ns : List Int} (h : SqL K H a (ns.map V.int)) (k : Q (.int ns.sum) H) : CallU P w K (.builtin "sum") [.ref a] H Q := .ofK (r := rSum) (fun _ al => cr_sum al.calm) ⟨a, ns, rfl, h, k⟩
theorem v_all {bs : List Bool} (h : SqL K H a (bs.map V.bl)) (k : Q (.bl (bs.all id)) H) : CallU P w K (.builtin "all") [.ref a] H Q := .ofK (r := rAll) (fun _ al => cr_all al.calm) ⟨a, bs, rfl, h, k⟩
theorem v_tupleL {xs : List V} (S : Ok F B L H) (h : SqL K H a xs) (k : ∀ p B' H', Ex B B' → B' p = some (.tup xs) → Ok F B' L H' → Q (.ref p) H') : CallU P w K (.type "tuple") [.ref a] H Q :=
  .ofK (r := fun K vs H Q => ∃ p ys, vs = [.ref p] ∧ ((SqL K H p ys ∧ ∀ l, H l = none → Q (.ref l) (upd H l (.tup ys))) ∨ (SqT K H p ys ∧ Q (.ref p) H))) (fun _ _ => call_tuple_of)
    ⟨a, xs, rfl, .inl ⟨h, fun p hp => k p _ _ (S.exB hp) upd_same (S.newB hp)⟩⟩
theorem v_tupleT {xs : List V} (h : SqT K H a xs) (k : Q (.ref a) H) : CallU P w K (.type "tuple") [.ref a] H Q :=
  .ofK (r := fun K vs H Q => ∃ p ys, vs = [.ref p] ∧ ((SqL K H p ys ∧ ∀ l, H l = none → Q (.ref l) (upd H l (.tup ys))) ∨ (SqT K H p ys ∧ Q (.ref p) H))) (fun _ _ => call_tuple_of)
    ⟨a, xs, rfl, .inr ⟨h, k⟩⟩
end
/-! fields -/
section
variable {K : PySem.W.Frag} {σ : L2.St} {H : Hp} {te tv : TE} {f : Str} {Q : VK} {D : Ends}
def FldQ (K : PySem.W.Frag) (f : Str) (Q : VK) : VK := fun x H1 => ∃ a C dx fs v, x = .ref a ∧ H1 a = some (.ins C dx fs) ∧ Cls K C ∧ NoAttr K C f ∧ fs.lookup f = some v ∧ Q v H1
theorem r_fld (k : te σ H (FldQ K f Q)) : tFld K te f σ H Q := k
theorem fldQ {a C dx : Addr} {fs : List (Str × V)} {v : V} (h : H a = some (.ins C dx fs)) (c : Cls K C) (n : NoAttr K C f) (l : fs.lookup f = some v) (k : Q v H) : FldQ K f Q (.ref a) H := ⟨a, C, dx, fs, v, rfl, h, c, n, l, k⟩
def SFdQ (K : PySem.W.Frag) (f : Str) (y : V) (D : Ends) (σ : L2.St) : VK := fun x H2 => ∃ a C dx fs, x = .ref a ∧ H2 a = some (.ins C dx fs) ∧ Cls K C ∧ NoAttr K C f ∧ fs.length < 1000 ∧ D.nx σ (upd H2 a (.ins C dx (putF f y fs)))
theorem r_sfld (k : tv σ H fun y H1 => te σ H1 (SFdQ K f y D σ)) : sFld K te tv f D σ H := k
theorem sfdQ {F : Ent} {B : Hp} {L : Led} {a C dx : Addr} {fs fs' : List (Str × V)} {y : V} (n : Nat) (S : Ok F B L H) (h : L[n]? = some (a, .ins C dx fs)) (c : Cls K C) (na : NoAttr K C f) (hl : fs.length < 1000) (hf : putF f y fs = fs') (k : ∀ H', Ok F B (L.set n (a, .ins C dx fs')) H' → D.nx σ H') : SFdQ K f y D σ (.ref a) H := by
  subst hf
  exact ⟨a, C, dx, fs, rfl, (S.own _ (List.mem_of_getElem? h)).1, c, na, hl, k _ (S.mutN n h)⟩
def AFdQ (K : PySem.W.Frag) (f : Str) (rd : V → V → Hp → VK → Prop) (tv : TE) (D : Ends) (σ : L2.St) : VK := fun x H1 => ∃ a C dx fs v, x = .ref a ∧ H1 a = some (.ins C dx fs) ∧ Cls K C ∧ NoAttr K C f ∧ fs.lookup f = some v ∧
  tv σ H1 fun y H2 => rd v y H2 fun z H3 => ∃ dx' fs', H3 a = some (.ins C dx' fs') ∧ fs'.length < 1000 ∧ D.nx σ (upd H3 a (.ins C dx' (putF f z fs')))
theorem r_afld {rd : V → V → Hp → VK → Prop} (k : te σ H (AFdQ K f rd tv D σ)) : sFldAug K te tv rd f D σ H := k
end
end WK
namespace WK
open PySem PySem.Spec PyProof.Rows L2
theorem r_yes {σ : L2.St} {H : Hp} {Q : Bool → Hp → Prop} (k : Q true H) : tYes σ H Q := k
theorem ifTt {A B : Prop} (k : A) : if true = true then A else B := by rw [if_pos rfl]; exact k
end WK
namespace WK
open PySem PySem.Spec PyProof.Rows L2
section
variable {α : Type} {J : It} {GB : Hp → Led → Prop} {as : List α} {R : Hp → V → α → Prop} {F : Ent} {B H1 : Hp} {L : Led} {σ : L2.St} {K : PySem.W.Frag}
/-- a comprehension that makes data of data -/
theorem lcPure (K : PySem.W.Frag) (src : Src J GB as R) {g : TG} {tt : TT} {te : TE} {vs : List Nat} {Q : VK} (S : Ok F B L H1) (hGB : ∀ B1 D acc, Ex B B1 → GB B1 ((D, .lst acc) :: L)) (keep : α → Bool) (f : α → PyData) (hz : as.length ≤ 100000)
    (hs : ∀ a x B1 D acc H1 (C : VK) (Cs : Hp → Prop), a ∈ as → Ex B B1 → Ok F B1 ((D, .lst acc) :: L) H1 → R B1 x a →
      (∀ y H4 B2, keep a = true → Ex B1 B2 → Ok F B2 ((D, .lst acc) :: L) H4 → Dp K B2 y (f a) → C y H4) → (∀ H3 B2, keep a = false → Ex B1 B2 → Ok F B2 ((D, .lst acc) :: L) H3 → Cs H3) →
      g x (wipe σ vs) H1 fun σ2 H2 => wipe σ2 vs = wipe σ vs ∧ tt σ2 H2 fun b H3 => if b = true then te σ2 H3 C else Cs H3)
    (hd : ∀ D acc B1 H1, Ex B B1 → Ok F B1 ((D, .lst acc) :: L) H1 → DpAll K B1 acc ((as.filter keep).map f) → Q (.ref D) H1) : LcW g tt te vs σ Q J H1 := by
  refine lcD src S (fun i acc B1 L1 => L1 = L ∧ Ex B B1 ∧ DpAll K B1 acc (((as.take i).filter keep).map f)) ⟨rfl, Ex.refl _, .nil⟩ ?_ ?_ ?_
  · rintro i acc B1 L1 D _ ⟨rfl, e, _⟩
    exact hGB B1 D acc e
  · rintro i a x acc B0 B1 L1 D H1 ha ⟨rfl, e, hd⟩ e1 S1 r
    have hm : a ∈ as := List.mem_of_getElem? ha
    have hlen : acc.length ≤ i := by
      have h1 := hd.length
      have h2 := List.length_filter_le keep (as.take i)
      rw [List.length_map] at h1
      rw [List.length_take] at h2
      omega
    have hi : i < as.length := (List.getElem?_eq_some_iff.mp ha).1
    have et : as.take (i + 1) = as.take i ++ [a] := by rw [List.take_add_one, ha]; rfl
    refine hs a x B1 D acc H1 _ _ hm (e.trans e1) S1 r (fun y H4 B2 hk e2 S2 hy => ?_) (fun H3 B2 hk e2 S2 => ?_)
    · refine Acc.mk S2 (by rw [sizeLine_eq]; omega) ⟨rfl, (e.trans e1).trans e2, ?_⟩
      rw [et, List.filter_append, List.map_append]
      have : [a].filter keep = [a] := by simp [hk]
      rw [this]
      exact (hd.up (e1.trans e2)).append (.cons hy .nil)
    · refine Skp.mk S2 ⟨rfl, (e.trans e1).trans e2, ?_⟩
      rw [et, List.filter_append]
      have : [a].filter keep = [] := by simp [hk]
      rw [this, List.append_nil]
      exact hd.up (e1.trans e2)
  · rintro acc B1 L1 D H1 ⟨rfl, e, hd'⟩ S1
    rw [List.take_length] at hd'
    exact hd D acc B1 H1 e S1 hd'
theorem lcPureT {P : Program} {w : World} {tg : Expr} {enc : α → PyData} {v : V} {g : TG} {tt : TT} {te : TE} {vs : List Nat} {Q : VK} (S : Ok F B L H1) (h : Dp K B v (.tuple (as.map enc))) (keep : α → Bool) (f : α → PyData) (hz : as.length ≤ 100000)
    (hs : ∀ a x B1 D acc H1 (C : VK) (Cs : Hp → Prop), a ∈ as → Ex B B1 → Ok F B1 ((D, .lst acc) :: L) H1 → Dp K B1 x (enc a) →
      (∀ y H4 B2, keep a = true → Ex B1 B2 → Ok F B2 ((D, .lst acc) :: L) H4 → Dp K B2 y (f a) → C y H4) → (∀ H3 B2, keep a = false → Ex B1 B2 → Ok F B2 ((D, .lst acc) :: L) H3 → Cs H3) →
      g x (wipe σ vs) H1 fun σ2 H2 => wipe σ2 vs = wipe σ vs ∧ tt σ2 H2 fun b H3 => if b = true then te σ2 H3 C else Cs H3)
    (hd : ∀ D acc B1 H1, Ex B B1 → Ok F B1 ((D, .lst acc) :: L) H1 → DpAll K B1 acc ((as.filter keep).map f) → Q (.ref D) H1) : ItU P w K tg v H1 (LcW g tt te vs σ Q) := by
  obtain ⟨a, xs, rfl, hq, ha⟩ := Dp.tup_inv h
  exact ItU.tup (S.tqB hq) (lcPure K src_tup S (fun B1 D acc e => ⟨e.sqT hq, ha.up e⟩) keep f hz hs hd)
theorem lcPureL {P : Program} {w : World} {tg : Expr} {enc : α → PyData} {v : V} {g : TG} {tt : TT} {te : TE} {vs : List Nat} {Q : VK} (S : Ok F B L H1) (h : Dp K B v (.list (as.map enc))) (keep : α → Bool) (f : α → PyData) (hz : as.length ≤ 100000)
    (hs : ∀ a x B1 D acc H1 (C : VK) (Cs : Hp → Prop), a ∈ as → Ex B B1 → Ok F B1 ((D, .lst acc) :: L) H1 → Dp K B1 x (enc a) →
      (∀ y H4 B2, keep a = true → Ex B1 B2 → Ok F B2 ((D, .lst acc) :: L) H4 → Dp K B2 y (f a) → C y H4) → (∀ H3 B2, keep a = false → Ex B1 B2 → Ok F B2 ((D, .lst acc) :: L) H3 → Cs H3) →
      g x (wipe σ vs) H1 fun σ2 H2 => wipe σ2 vs = wipe σ vs ∧ tt σ2 H2 fun b H3 => if b = true then te σ2 H3 C else Cs H3)
    (hd : ∀ D acc B1 H1, Ex B B1 → Ok F B1 ((D, .lst acc) :: L) H1 → DpAll K B1 acc ((as.filter keep).map f) → Q (.ref D) H1) : ItU P w K tg v H1 (LcW g tt te vs σ Q) := by
  obtain ⟨a, xs, rfl, hq, ha⟩ := Dp.lst_inv h
  exact ItU.list (S.sqB hq) (lcPure K src_lst S (fun B1 D acc e => ⟨.inl (e.sqL hq), ha.up e⟩) keep f hz hs hd)
end
theorem filter_tt {α : Type} (as : List α) : as.filter (fun _ => true) = as := by simp
end WK
namespace WK
open PySem PySem.Spec PyProof.Rows L2
section
variable {P : Program} {w : World} {F : Ent} {B H : Hp} {L : Led} {K : PySem.W.Frag} {D : Addr} {acc : List V} {ds : List PyData} {Q : VK} {v : V}
/-- a list of one's own is data from now on -/
theorem Ok.toData (S : Ok F B ((D, .lst acc) :: L) H) (h : DpAll K B acc ds) : ∃ B', Ex B B' ∧ Ok F B' L H ∧ Dp K B' (.ref D) (.list ds) :=
  ⟨_, S.exF, S.freeze, .lst (SqL.of upd_same) (h.up S.exF)⟩
theorem Dp.ofTup {a : Addr} (h : B a = some (.tup acc)) (hd : DpAll K B acc ds) : Dp K B (.ref a) (.tuple ds) := .tup (SqT.of h) hd
theorem v_lenDL (S : Ok F B L H) (h : Dp K B v (.list ds)) (k : Q (.int ds.length) H) : CallU P w K (.builtin "len") [v] H Q := by
  obtain ⟨a, xs, rfl, hq, ha⟩ := Dp.lst_inv h
  refine v_lenL (S.sqB hq) ?_
  rw [ha.length]
  exact k
theorem v_lenDT (S : Ok F B L H) (h : Dp K B v (.tuple ds)) (k : Q (.int ds.length) H) : CallU P w K (.builtin "len") [v] H Q := by
  obtain ⟨a, xs, rfl, hq, ha⟩ := Dp.tup_inv h
  refine v_lenT (S.tqB hq) ?_
  rw [ha.length]
  exact k
theorem v_allD {bs : List Bool} (S : Ok F B L H) (h : Dp K B v (.list (bs.map PyData.bool))) (k : Q (.bl (bs.all id)) H) : CallU P w K (.builtin "all") [v] H Q := by
  obtain ⟨a, xs, rfl, hq, ha⟩ := Dp.lst_inv h
  rw [ha.bools] at hq
  exact v_all (S.sqB hq) k
theorem v_sumD {ns : List Int} (S : Ok F B L H) (h : Dp K B v (.list (ns.map PyData.int))) (k : Q (.int ns.sum) H) : CallU P w K (.builtin "sum") [v] H Q := by
  obtain ⟨a, xs, rfl, hq, ha⟩ := Dp.lst_inv h
  rw [ha.ints] at hq
  exact v_sum (S.sqB hq) k
/-- tuple(a list of data) -/
theorem v_tupD (S : Ok F B L H) (h : Dp K B v (.list ds)) (k : ∀ p B' H', Ex B B' → Ok F B' L H' → Dp K B' (.ref p) (.tuple ds) → Q (.ref p) H') : CallU P w K (.type "tuple") [v] H Q := by
  obtain ⟨a, xs, rfl, hq, ha⟩ := Dp.lst_inv h
  exact v_tupleL S (S.sqB hq) fun p B' H' e hp S' => k p B' H' e S' (Dp.ofTup hp (ha.up e))
theorem v_tupDT (S : Ok F B L H) (h : Dp K B v (.tuple ds)) (k : Q v H) : CallU P w K (.type "tuple") [v] H Q := by
  obtain ⟨a, xs, rfl, hq, ha⟩ := Dp.tup_inv h
  exact v_tupleT (S.tqB hq) k
/-- a display of data -/
theorem new_tupD {vs : List V} (S : Ok F B L H) (h : DpAll K B vs ds) (hz : vs.length ≤ 1000) (k : ∀ p B' H', Ex B B' → Ok F B' L H' → Dp K B' (.ref p) (.tuple ds) → Q (.ref p) H') : NewT vs H Q :=
  new_tup S (by rw [sizeLine_eq]; omega) fun p B' H' e hp S' => k p B' H' e S' (Dp.ofTup hp (h.up e))
end
end WK
namespace WK
open PySem PySem.Spec PyProof.Rows L2
section
variable {F : Ent} {B H B' H' : Hp} {L L' : Led} {a : Addr} {u : HO} {od : Obj}
/-- a thing of the caller's that is locked for a while: one's own meanwhile -/
theorem Ok.lock (S : Ok F B L H) (h : H a = some u) (hb : B a = none) (hl : a ∉ L.map (·.1)) : Ok ⟨B, upd H a (.frz od u), a :: L.map (·.1)⟩ B ((a, .frz od u) :: L) (upd H a (.frz od u)) := by
  refine Ok.start (L := (a, .frz od u) :: L) (fun b o e => ?_) (List.nodup_cons.mpr ⟨hl, S.nd⟩) fun q hq => ?_
  · rw [upd_ne (ne_of_none e hb)]; exact S.ex b o e
  · rcases List.mem_cons.mp hq with rfl | hq
    · exact ⟨upd_same, hb⟩
    · obtain ⟨e1, e2⟩ := S.own q hq
      exact ⟨by rw [upd_ne fun z => hl (by rw [← z]; exact List.mem_map.mpr ⟨q, hq, rfl⟩)]; exact e1, e2⟩
theorem Ok.unlock (S : Ok F B L H) (h : H a = some u) (hb : B a = none) (hl : a ∉ L.map (·.1)) (T : Ok ⟨B, upd H a (.frz od u), a :: L.map (·.1)⟩ B' ((a, .frz od u) :: L') H') : H' a = some (.frz od u) ∧ Ok F B' L' (upd H' a u) := by
  obtain ⟨e0, nb⟩ := T.own _ (List.mem_cons_self ..)
  have ndT := List.nodup_cons.mp T.nd
  have nl : ∀ q ∈ L', q.1 ≠ a := fun q hq z => ndT.1 (List.mem_map.mpr ⟨q, hq, z⟩)
  have old : ∀ b o, H b = some o → b ∉ L.map (·.1) → upd H' a u b = some o := fun b o e hn => by
    by_cases z : b = a
    · subst z
      rw [upd_same, ← e, h]
    · rw [upd_ne z]
      refine T.keep b o (by show upd H a _ b = _; rw [upd_ne z]; exact e) fun y => ?_
      rcases List.mem_cons.mp y with y | y
      · exact z y
      · exact hn y
  have oldF : ∀ b, (upd H a (.frz od u)) b = none → H b = none := fun b e => by
    by_cases z : b = a
    · rw [z, upd_same] at e; cases e
    · rw [upd_ne z] at e; exact e
  have oldL : ∀ b, b ∈ L.map (·.1) → b ∈ F.A ∨ F.H b = none := fun b hb' => by
    obtain ⟨q, hq, rfl⟩ := List.mem_map.mp hb'
    exact S.fL q hq
  have noneF : ∀ b, H b = none → F.H b = none := fun b e => (S.fresh e).1
  refine ⟨e0, fun b o e => ?_, ndT.2, fun q hq => ?_, S.ex0.trans T.ex0, fun b o e hn => ?_, fun b hb' => ?_, fun b o e => ?_, fun q hq => ?_⟩
  · rw [upd_ne (ne_of_none e nb)]; exact T.ex b o e
  · obtain ⟨e1, e2⟩ := T.own q (List.mem_cons_of_mem _ hq)
    exact ⟨by rw [upd_ne (nl q hq)]; exact e1, e2⟩
  · refine old b o (S.keep b o e hn) fun z => ?_
    rcases oldL b z with y | y
    · exact hn y
    · rw [y] at e; cases e
  · obtain ⟨o, e⟩ := S.kA b hb'
    by_cases z : b ∈ L.map (·.1)
    · obtain ⟨o', e'⟩ := T.kA b (List.mem_cons_of_mem _ z)
      by_cases y : b = a
      · exact ⟨u, by rw [y]; exact upd_same⟩
      · exact ⟨o', by rw [upd_ne y]; exact e'⟩
    · exact ⟨o, old b o e z⟩
  · rcases T.fB b o e with ⟨w, z⟩ | z | z
    · exact S.fB b w z
    · exact .inr (.inl (noneF b (oldF b z)))
    · rcases List.mem_cons.mp z with z | z
      · rw [z] at e; exact absurd (e.symm.trans nb) (by simp)
      · rcases oldL b z with y | y
        · exact .inr (.inr y)
        · exact .inr (.inl y)
  · rcases T.fL q (List.mem_cons_of_mem _ hq) with z | z
    · rcases List.mem_cons.mp z with z | z
      · exact absurd z (nl q hq)
      · exact oldL _ z
    · exact .inr (noneF _ (oldF _ z))
/-- a dict of one's own is let go: it stays, locked, from now on -/
theorem Ok.freezeD (S : Ok F B ((a, u) :: L) H) : ∃ B', Ex B B' ∧ B' a = some (.frz od u) ∧ Ok F B' L (upd H a (.frz od u)) := by
  have S1 : Ok F B ((a, .frz od u) :: L) (upd H a (.frz od u)) := S.mut
  exact ⟨_, S1.exF, upd_same, S1.freeze⟩
end
section
variable {X : Cx}
/-- a thing locked for good: for the expression, or the statements, that follow -/
def tFrzE (t : TE) : TE := fun σ H Q => t σ H Q ∨ ∃ d u, H d = some u ∧ Mut (some u) ∧ ∀ od, t σ (upd H d (.frz od u)) Q
theorem pe_frz {e : Expr} {t : TE} (h : PE X e t) : PE X e (tFrzE t) := by
  refine ⟨fun pins s σ H Q I hw => ?_⟩
  rcases hw with hw | ⟨d, u, hd, mu, hw⟩
  · exact h.run pins s σ H Q I hw
  · obtain ⟨od, I1⟩ := I.lock hd mu
    exact h.run pins s σ _ Q I1 (hw od)
theorem frzE {t : TE} {σ : L2.St} {H : Hp} {Q : VK} {d : Addr} {u : HO} (h : H d = some u) (mu : Mut (some u)) (k : ∀ od, t σ (upd H d (.frz od u)) Q) : tFrzE t σ H Q := .inr ⟨d, u, h, mu, k⟩
theorem frzN {t : TE} {σ : L2.St} {H : Hp} {Q : VK} (k : t σ H Q) : tFrzE t σ H Q := .inl k
def tFrzS (t : TS) : TS := fun D σ H => t D σ H ∨ ∃ d u, H d = some u ∧ Mut (some u) ∧ ∀ od, t D σ (upd H d (.frz od u))
theorem ps_frz {st : Stmt} {t : TS} (h : PS X st t) : PS X st (tFrzS t) := by
  refine ⟨fun pins s σ H D I hw => ?_⟩
  rcases hw with hw | ⟨d, u, hd, mu, hw⟩
  · exact h.run pins s σ H D I hw
  · obtain ⟨od, I1⟩ := I.lock hd mu
    exact h.run pins s σ _ D I1 (hw od)
theorem frzS {t : TS} {σ : L2.St} {H : Hp} {D : Ends} {d : Addr} {u : HO} (h : H d = some u) (mu : Mut (some u)) (k : ∀ od, t D σ (upd H d (.frz od u))) : tFrzS t D σ H := .inr ⟨d, u, h, mu, k⟩
end
end WK

namespace WK
open PySem PySem.Spec PyProof.Rows L2
theorem valV_none {κ : Type} [DecidableEq κ] {kvs : List (κ × V)} {k : κ} (h : k ∉ kvs.map (·.1)) : valV kvs k = none := by
  cases e : valV kvs k with
  | none => rfl
  | some w => exact absurd (valV_in e) h
section
variable {α : Type} {J : It} {GB : Hp → Led → Prop} {as : List α} {R : Hp → V → α → Prop} {F : Ent} {B H H1 : Hp} {L : Led} {σ : L2.St} {K : PySem.W.Frag}
/-- a dict whose keys are all new and whose values are fixed -/
theorem dcPure (src : Src J GB as R) {g : TG} {tt : TT} {tk tv : TE} {vs : List Nat} {Q : VK} (S : Ok F B L H1) (hGB : ∀ B1 D acc, Ex B B1 → GB B1 ((D, .dK acc) :: L)) (keep : α → Bool) (f : α → Key × V) (nd : (as.map fun a => (f a).1).Nodup) (hz : as.length ≤ 100000)
    (hs : ∀ a x B1 D acc H1 (C : V → VK) (Cs : Hp → Prop), a ∈ as → Ex B B1 → Ok F B1 ((D, .dK acc) :: L) H1 → R B1 x a →
      (∀ z H4 B2, keep a = true → z = (f a).2 → Ex B1 B2 → Ok F B2 ((D, .dK acc) :: L) H4 → C (kV (f a).1) z H4) → (∀ H3 B2, keep a = false → Ex B1 B2 → Ok F B2 ((D, .dK acc) :: L) H3 → Cs H3) →
      g x (wipe σ vs) H1 fun σ2 H2 => wipe σ2 vs = wipe σ vs ∧ tt σ2 H2 fun b H3 => if b = true then tk σ2 H3 fun y H4 => tv σ2 H4 (C y) else Cs H3)
    (hd : ∀ D B1 H1, Ex B B1 → Ok F B1 ((D, .dK ((as.filter keep).map f)) :: L) H1 → Q (.ref D) H1) : DcW g tt tk tv vs σ Q J H1 := by
  refine dcD src S (fun i acc B1 L1 => L1 = L ∧ Ex B B1 ∧ acc = ((as.take i).filter keep).map f) ⟨rfl, Ex.refl _, rfl⟩ ?_ ?_ ?_
  · rintro i acc B1 L1 D _ ⟨rfl, e, _⟩
    exact hGB B1 D acc e
  · rintro i a x acc B0 B1 L1 D H1 ha ⟨rfl, e, rfl⟩ e1 S1 r
    have hm : a ∈ as := List.mem_of_getElem? ha
    have hi : i < as.length := (List.getElem?_eq_some_iff.mp ha).1
    have et : as.take (i + 1) = as.take i ++ [a] := by rw [List.take_add_one, ha]; rfl
    have hlen : (((as.take i).filter keep).map f).length ≤ i := by
      have h2 := List.length_filter_le keep (as.take i)
      rw [List.length_map]
      rw [List.length_take] at h2
      omega
    refine hs a x B1 D _ H1 _ _ hm (e.trans e1) S1 r (fun z H4 B2 hk hz' e2 S2 => ?_) (fun H3 B2 hk e2 S2 => ?_)
    · refine AccD.mk (k := (f a).1) S2 rfl (by rw [sizeLine_eq]; omega) ⟨rfl, (e.trans e1).trans e2, ?_⟩
      subst hz'
      rw [et, List.filter_append, List.map_append]
      have : [a].filter keep = [a] := by simp [hk]
      rw [this]
      refine putK_new _ ?_
      cases ev : valV (((as.take i).filter keep).map f) (f a).1 with
      | none => rfl
      | some w =>
        exfalso
        have h1 := valV_in ev
        rw [List.map_map] at h1
        obtain ⟨b, hb, eb⟩ := List.mem_map.mp h1
        have hb' := (List.mem_filter.mp hb).1
        obtain ⟨j, hj⟩ := List.getElem?_of_mem hb'
        have hji : j < i := by
          have := (List.getElem?_eq_some_iff.mp hj).1
          rw [List.length_take] at this
          omega
        rw [List.getElem?_take_of_lt hji] at hj
        have q1 : (as.map fun a => (f a).1)[j]? = some (f b).1 := by rw [List.getElem?_map, hj]; rfl
        have q2 : (as.map fun a => (f a).1)[i]? = some (f a).1 := by rw [List.getElem?_map, ha]; rfl
        have q3 := (List.getElem?_inj (i := j) (j := i) (by rw [List.length_map]; omega) nd).mp (by rw [q1, q2]; exact congrArg some eb)
        omega
    · refine SkpD.mk S2 ⟨rfl, (e.trans e1).trans e2, ?_⟩
      rw [et, List.filter_append]
      have : [a].filter keep = [] := by simp [hk]
      rw [this, List.append_nil]
  · rintro acc B1 L1 D H1 ⟨rfl, e, rfl⟩ S1
    rw [List.take_length] at S1
    exact hd D B1 H1 e S1
end
end WK
namespace WK
open PySem PySem.Spec PyProof.Rows L2
section
variable {X : Cx}
/-- name = {..} on one line, the name a local -/
theorem ps_setDc {i : Nat} {y : Str} {py : Pos} {kx vx tg iter : Expr} {ifs : List Expr} {scope : Scope} {own : List (Str × Nat)} {pos spos : Pos} {wi : TI} {g : TG} {tt : TT} {tk tv : TE} (hc : X.calm = true) (hN : X.N.Nodup) (hy : X.N[i]? = some y) (hyl : X.env.scope.names.lookup y = some .local)
    (hsw : swapsWith (.DictComp kx vx [⟨tg, iter, ifs, 0⟩] scope pos) (some (.Name y py)) spos.line X.env = pure true) (hi : PI X tg iter wi) (ok : BlkOk X.N X.env.scope scope own)
    (hg : ∀ (s : Shared) (H : Hp) (C : Addr) (cl : List (Str × Addr)) (fp : List Addr), PG (X.blk s H scope (compEnvC scope cl C X.env) fp) tg g) (ht : ∀ (s : Shared) (H : Hp) (C : Addr) (cl : List (Str × Addr)) (fp : List Addr), PTs (X.blk s H scope (compEnvC scope cl C X.env) fp) ifs tt)
    (hk : ∀ (s : Shared) (H : Hp) (C : Addr) (cl : List (Str × Addr)) (fp : List Addr), PE (X.blk s H scope (compEnvC scope cl C X.env) fp) kx tk)
    (he : ∀ (s : Shared) (H : Hp) (C : Addr) (cl : List (Str × Addr)) (fp : List Addr), PE (X.blk s H scope (compEnvC scope cl C X.env) fp) vx tv) (hs : ∀ x, foldedSetIterable iter X.env x = pure x := by intro _; rfl) :
    PS X (.Assign [.Name y py] (.DictComp kx vx [⟨tg, iter, ifs, 0⟩] scope pos) spos) (tAsg (tDc wi g tt tk tv (own.map (·.2))) (gName i)) := by
  refine ⟨fun pins s σ H D I h => ?_⟩
  rw [exec_Assign_Name_used _ _ _ _ hsw]
  refine wpAny_bind (wpAny_standAt (wpAny_bind ?_))
  show wpAny _ X.A (do let _ ← comprehension (.DictComp kx vx [⟨tg, iter, ifs, 0⟩] scope pos) scope X.env (firstIterPos [⟨tg, iter, ifs, 0⟩] pos) newDict false (eval iter X.env) (some (assign (.Name y py) X.env))) _ _ s
  have h : tDc wi g tt tk tv (own.map (·.2)) σ H (fun x H1 => gName i x σ H1 D.nx) := h
  refine wpAny_bind (thn (dc_core (Qf := fun _ s' => SP X pins D .next s') hc hN I hi ok hg ht hk he hs h fun L C s' m H' I' q hn f => ?_) fun _ s' hq => wpAny_pure (wpAny_pure hq))
  show wpAny _ _ (assign (.Name y py) X.env (.ref L)) _ _ _
  refine wpAny_assign_Name (store_ok2 (v := V.ref L) I' hN hy (.inl hyl) rfl (fun s2 I2 ⟨a, sb, ha⟩ => ?_) (.inr hyl))
  obtain ⟨f0, f1, f2, f3, f4, f5⟩ := f
  have haC : C ≠ a := by
    rcases ha with z | z
    · rw [z]; exact f1
    · exact fun e => f4 y a z e.symm
  refine ⟨m, hn.sameBut sb haC, fun h3 sb3 => ?_⟩
  exact ⟨_, H', I2.turned (t' := s2.toks) (fun b o hb e => (sb3.2 b hb).trans e) f0 f1 f3 f4 f5, q⟩
theorem sw_trueD {kx vx : Expr} {gs : List Comprehension} {scope : Scope} {pos py : Pos} {y : Str} {l : Nat} {env : Env} (hk : env.scope.kind = .function) (hy : env.scope.names.lookup y = some .local) (hl : (py.line == pos.line) = true)
    (ha : (scope.names.any fun (n, k) => n == y && (k == .local || k == .cell)) = false) : swapsWith (.DictComp kx vx gs scope pos) (some (.Name y py)) l env = pure true := by
  have ky : env.kindOf y = some .local := hy
  have hb : env.blockKind = .function := by unfold Env.blockKind; rw [hk]; rfl
  unfold swapsWith
  simp only [hb, ky, ha, Expr.pos, hl]
  rfl
end
end WK
namespace WK
open PySem PySem.Spec PyProof.Rows L2
section
variable {α : Type} {F : Ent} {B H : Hp} {L : Led} {σ : L2.St} {K : PySem.W.Frag} {P : Program} {w : World} {tg : Expr}
/-- what a turn of a loop is to reach, what stays only growing -/
structure NxE (F : Ent) (B : Hp) (I : L2.St → Hp → Led → Prop) (σ : L2.St) (H : Hp) : Prop where
  it : ∃ B1 L1, Ok F B1 L1 H ∧ Ex B B1 ∧ I σ B1 L1
theorem NxE.mk' {I : L2.St → Hp → Led → Prop} {B1 : Hp} (S : Ok F B1 L H) (e : Ex B B1) (h : I σ B1 L) : NxE F B I σ H := ⟨B1, L, S, e, h⟩
/-- any source that what stays carries -/
theorem forDS {J : It} {GB : Hp → Led → Prop} {as : List α} {R : Hp → V → α → Prop} (src : Src J GB as R) {g : TG} {tb : TS} {D : Ends} (S : Ok F B L H) (I : Nat → L2.St → Hp → Led → Prop) (hGB : ∀ i σ B1 L1, Ex B B1 → I i σ B1 L1 → GB B1 L1) (h0 : I 0 σ B L)
    (hs : ∀ i a x σ B0 B1 L H, as[i]? = some a → I i σ B0 L → Ex B B0 → Ex B0 B1 → Ok F B1 L H → R B1 x a → g x σ H fun σ2 H2 => tb { D with nx := NxE F B (I (i + 1)), ct := NxE F B (I (i + 1)), bk := D.nx } σ2 H2)
    (hd : ∀ σ B1 L H, I as.length σ B1 L → Ex B B1 → Ok F B1 L H → D.nx σ H) : ForW g tb D σ J H := by
  obtain ⟨G, Y, w, h1, h2⟩ := src.ex
  refine for_it w (fun i => NxE F B (I i)) (.mk' S (Ex.refl _) h0) (fun i σ H hi ⟨B1, L, S, e, q⟩ => h1 F B1 L H S (hGB i σ B1 L e q)) (fun i x σ H H' hi ⟨B1, L, S, e, q⟩ y => ?_) (fun σ H ⟨B1, L, S, e, q⟩ => hd σ B1 L H q e S)
  obtain ⟨a, B', ea, ex, S', r⟩ := h2 F B1 L i H x H' S (hGB i σ B1 L e q) y hi
  exact hs i a x σ B1 B' L H' ea q e ex S' r
/-- over a tuple of data -/
theorem forDT {as : List α} {enc : α → PyData} {v : V} {g : TG} {tb : TS} {D : Ends} (S : Ok F B L H) (h : Dp K B v (.tuple (as.map enc))) (I : Nat → L2.St → Hp → Led → Prop) (h0 : I 0 σ B L)
    (hs : ∀ i a x σ B0 B1 L H, as[i]? = some a → I i σ B0 L → Ex B B0 → Ex B0 B1 → Ok F B1 L H → Dp K B1 x (enc a) → g x σ H fun σ2 H2 => tb { D with nx := NxE F B (I (i + 1)), ct := NxE F B (I (i + 1)), bk := D.nx } σ2 H2)
    (hd : ∀ σ B1 L H, I as.length σ B1 L → Ex B B1 → Ok F B1 L H → D.nx σ H) : ItU P w K tg v H (ForW g tb D σ) := by
  obtain ⟨a, xs, rfl, hq, ha⟩ := Dp.tup_inv h
  exact ItU.tup (S.tqB hq) (forDS (src_tup (xs := xs) (as := as) (enc := enc)) S I (fun _ _ _ _ e _ => ⟨e.sqT hq, ha.up e⟩) h0 hs hd)
theorem forDL {as : List α} {enc : α → PyData} {v : V} {g : TG} {tb : TS} {D : Ends} (S : Ok F B L H) (h : Dp K B v (.list (as.map enc))) (I : Nat → L2.St → Hp → Led → Prop) (h0 : I 0 σ B L)
    (hs : ∀ i a x σ B0 B1 L H, as[i]? = some a → I i σ B0 L → Ex B B0 → Ex B0 B1 → Ok F B1 L H → Dp K B1 x (enc a) → g x σ H fun σ2 H2 => tb { D with nx := NxE F B (I (i + 1)), ct := NxE F B (I (i + 1)), bk := D.nx } σ2 H2)
    (hd : ∀ σ B1 L H, I as.length σ B1 L → Ex B B1 → Ok F B1 L H → D.nx σ H) : ItU P w K tg v H (ForW g tb D σ) := by
  obtain ⟨a, xs, rfl, hq, ha⟩ := Dp.lst_inv h
  exact ItU.list (S.sqB hq) (forDS (src_lst (xs := xs) (as := as) (enc := enc)) S I (fun _ _ _ _ e _ => ⟨.inl (e.sqL hq), ha.up e⟩) h0 hs hd)
end
end WK
namespace WK
open PySem PySem.Spec PyProof.Rows L2
/-- what was added to what stays is dropped again -/
theorem Ok.rebase {B B0 B' H H' : Hp} {A : List Addr} {L : Led} (e : Ex B B0) (T : Ok ⟨B0, H, A⟩ B' L H') : Ok ⟨B, H, A⟩ B L H' := by
  have e1 : Ex B B' := e.trans T.ex0
  refine ⟨e1.trans T.ex, T.nd, fun q hq => ⟨(T.own q hq).1, ?_⟩, Ex.refl _, T.keep, T.kA, fun b o h => .inl ⟨o, h⟩, T.fL⟩
  cases h : B q.1 with
  | none => rfl
  | some o =>
    have h2 := (T.own q hq).2
    rw [e1 _ _ h] at h2
    cases h2
end WK
namespace WK
open PySem PySem.Spec PyProof.Rows L2
/-- over a list or a tuple of data -/
theorem forDA {α : Type} {F : Ent} {B H : Hp} {L : Led} {σ : L2.St} {K : PySem.W.Frag} {P : Program} {w : World} {tg : Expr} {as : List α} {enc : α → PyData} {v : V} {d : PyData} {g : TG} {tb : TS} {D : Ends} (S : Ok F B L H) (h : Dp K B v d) (hd' : d = .list (as.map enc) ∨ d = .tuple (as.map enc)) (I : Nat → L2.St → Hp → Led → Prop) (h0 : I 0 σ B L)
    (hs : ∀ i a x σ B0 B1 L H, as[i]? = some a → I i σ B0 L → Ex B B0 → Ex B0 B1 → Ok F B1 L H → Dp K B1 x (enc a) → g x σ H fun σ2 H2 => tb { D with nx := NxE F B (I (i + 1)), ct := NxE F B (I (i + 1)), bk := D.nx } σ2 H2)
    (hd : ∀ σ B1 L H, I as.length σ B1 L → Ex B B1 → Ok F B1 L H → D.nx σ H) : ItU P w K tg v H (ForW g tb D σ) := by
  rcases hd' with rfl | rfl
  · exact forDL S h I h0 hs hd
  · exact forDT S h I h0 hs hd
end WK

namespace WK
open PySem PySem.Spec PyProof.Rows L2 PyProof.V PySem.Calls
section
variable {X : Cx} {o : Expr} {p pos apos mpos : Pos} {td : TE}
/-- sum(o.values()), a dict with int values -/
def SumQ (Q : VK) : VK := fun x H1 => ∃ (a : Addr) (kvs : List (Key × V)) (is : List Int), x = V.ref a ∧ Rd H1 a (.dK kvs) ∧ kvs.map (·.2) = is.map V.int ∧ Q (.int is.sum) H1
def tSumVals (td : TE) : TE := fun σ H Q => td σ H (SumQ Q)
theorem r_sumVals {σ : L2.St} {H : Hp} {Q : VK} (k : td σ H (SumQ Q)) : tSumVals td σ H Q := k
theorem sumQ {H : Hp} {Q : VK} {a : Addr} {kvs : List (Key × V)} {is : List Int} (h : Rd H a (.dK kvs)) (e : kvs.map (·.2) = is.map V.int) (k : Q (.int is.sum) H) : SumQ Q (.ref a) H := ⟨a, kvs, is, rfl, h, e, k⟩
theorem pe_sumVals (hc : X.calm = true) (hg : Gl X "sum") (hm : X.mg "sum" = none) (hd : PE X o td) (hbase : attributeBase o "values" X.env (eval o X.env) = eval o X.env := by rfl) (hline : (apos.endLine == mpos.line) = true := by rfl)
    (hse : starEach [Expr.Call (.Attribute o "values" apos) [] [] mpos] X.env = [(false, eval (Expr.Call (.Attribute o "values" apos) [] [] mpos) X.env)] := by rfl) :
    PE X (.Call (.Name "sum" p) [.Call (.Attribute o "values" apos) [] [] mpos] [] pos) (tSumVals td) := by
  refine ⟨fun pins s σ H Q I h => ?_⟩
  refine wpAny_Call_Name_kw (ld_blt I hg hm (u := .builtin "sum") (by first | rfl | decide +kernel) ?_ (by first | decide +kernel | decide) (by first | decide +kernel | decide))
  rw [hse]
  refine PySem.callWith_builtin1 (wpAny_Call_method0_late hbase hline (thn (hd.run pins s σ H _ I h) fun v s1 ⟨x, H1, I1, r1, a, kvs, is, ex, ha, hv, q⟩ => ?_))
  subst ex
  obtain rfl : v = Value.ref a := r1
  obtain ⟨_, hsys, vs, rel, dof⟩ := dk_rd I1.hok ha
  obtain ⟨ep, dat⟩ := dof.dictAt
  have dat' := dat
  obtain ⟨ob, es, ho, ex, hdat, hko, hpr, hnd⟩ := dat'
  refine ⟨"dict", "dict.values", F.plainAttrs_dict, F.slot_dict_values, F.type_dict_values, ⟨ob, ho, ex.1⟩, fun b e => ?_, Calls.callWith_builtin rfl (PySem.evalArgs_none ?_)⟩
  · cases e
    exact ⟨ob, ho, ex.2.1⟩
  refine call_meetsIn F.slot_dict_values ⟨ob, ho, ex.1⟩ F.entry_dict_values (F.args_dict_values_1 _) (meets_dict_values (mixKind X.prog X.w) a hsys) ⟨⟨vs, dof⟩, ?_⟩
  have k1 : ∀ b u, s1.heap.get? b = some u → (s1.heap.push { cls := .type "dict_values", data := .fields #[.ref a] }).get? b = some u := fun b u e => Heap.get?_push_of_some _ e
  have dat1 : (s1.heap.push { cls := .type "dict_values", data := .fields #[.ref a] }).DictAt (mixKind X.prog X.w) a vs ep := dat.keep k1
  have hlv : vs.length = is.length := by
    have e1 := congrArg List.length hv
    rw [List.length_map, List.length_map] at e1
    rw [← e1]
    exact (KV.length rel).symm
  have hval : ∀ (i : Nat) (v : Value), (∃ k, vs[i]? = some (k, v)) → ∃ t, v = Value.int (is.getD i 0) t := fun i v ⟨k, hk⟩ => by
    obtain ⟨x, h1, h2⟩ := KV.at' rel hk
    have e1 : (kvs.map (·.2))[i]? = some x := by rw [List.getElem?_map, h1] <;> rfl
    rw [hv, List.getElem?_map] at e1
    obtain ⟨j, hj, e2⟩ := Option.map_eq_some_iff.mp e1
    subst e2
    obtain ⟨t, e3⟩ := h2
    refine ⟨t, ?_⟩
    rw [e3, List.getD_eq_getElem?_getD, hj] <;> rfl
  refine call_sum_walkAnyS (wpAny_pyIter_values (v := s1.heap.objs.size) (d := a) ⟨_, Heap.get?_push_size _ rfl, rfl, rfl⟩ dat1 ?_)
  have hlt : a < s1.heap.objs.size := Heap.lt_size ho
  have hsz : (s1.heap.push { cls := .type "dict_values", data := .fields #[.ref a] }).objs.size = s1.heap.objs.size + 1 := Heap.size_push _ _
  refine ⟨_, _, _, _, _, _, _, fun i => is.getD i 0, rfl, (Walks.dictValues (knd := mixKind X.prog X.w) (A := X.A.in1) (I.ok.hd hc) (s1.heap.push { cls := .type "dict_values", data := .fields #[.ref a] }).objs.size a (by rw [hsz]; exact Nat.ne_of_lt (Nat.lt_succ_of_lt hlt)) vs ep).toS,
    ⟨⟨_, Heap.get?_push_size _ rfl, rfl, rfl⟩, dat1.keep fun b u e => Heap.get?_push_of_some _ e⟩, fun b hb => ?_, hval, fun s' t' hm => ?_⟩
  · show b < ((s1.heap.push _).push _).objs.size
    rw [Heap.size_push, Heap.size_push]
    rw [hsz] at hb
    rcases List.mem_cons.mp hb with e | hb
    · rw [e]
      exact Nat.lt_succ_self _
    · have e : b = a := List.mem_singleton.mp hb
      rw [e]
      exact Nat.lt_succ_of_lt (Nat.lt_succ_of_lt hlt)
  · have hk : ∀ b u, s1.heap.get? b = some u → s'.heap.get? b = some u := fun b u e =>
      hm.heap b u (fun hmem => by
        have e1 : b = (s1.heap.push { cls := .type "dict_values", data := .fields #[.ref a] }).objs.size := List.mem_singleton.mp hmem
        have e2 := Heap.lt_size e
        rw [hsz] at e1
        rw [e1] at e2
        exact absurd e2 (Nat.not_lt.mpr (Nat.le_succ _))) (Heap.get?_push_of_some _ (k1 b u e))
    have hsum : preSum (fun i => is.getD i 0) vs.length = is.sum := by
      rw [preSum_getD, hlv, List.take_length]
    rw [Moved.eq_with hm, hsum]
    exact ⟨.int _, H1, I1.kept (t' := s'.toks) hk, ⟨t', rfl⟩, q⟩
end
end WK
namespace WK
open PySem PySem.Spec PyProof.Rows L2
section
variable {F : Ent} {B H : Hp} {L : Led} {σ : L2.St} {Q : VK} {C : Addr} {m : Str} {sp : Sp} {ta : TE} {t : TA}
def MthQ (C : Addr) (m : Str) (sp : Sp) (t : TA) (σ : L2.St) (Q : VK) : VK := fun x H1 => ∃ a dx fs, x = .ref a ∧ H1 a = some (.ins C dx fs) ∧ fs.lookup m = none ∧ t σ H1 fun vs H2 => sp (x :: vs) H2 Q E0
theorem r_mth (k : ta σ H (MthQ C m sp t σ Q)) : tMth C m sp ta t σ H Q := k
theorem mthQ {a dx : Addr} {fs : List (Str × V)} (h : H a = some (.ins C dx fs)) (hl : fs.lookup m = none) (k : t σ H fun vs H2 => sp (.ref a :: vs) H2 Q E0) : MthQ C m sp t σ Q (.ref a) H := ⟨a, dx, fs, rfl, h, hl, k⟩
def RetQ (x : Addr) (Q : VK) : VK := fun v H2 => v = .non ∧ Q (.ref x) H2
theorem retQ {x : Addr} (k : Q (.ref x) H) : RetQ x Q .non H := ⟨rfl, k⟩
def MkQ (C : Addr) (sp : Sp) (Q : VK) : List V → Hp → Prop := fun vs H1 => ∀ x dx, H1 x = none → H1 dx = none → dx ≠ x → sp (.ref x :: vs) (upd (upd H1 dx (.own x)) x (.ins C dx [])) (RetQ x Q) E0
theorem r_mk (k : t σ H (MkQ C sp Q)) : tMk C sp t σ H Q := k
theorem mkQ {vs : List V} (S : Ok F B L H) (k : ∀ x dx H', Ok F B ((x, .ins C dx []) :: L) H' → sp (.ref x :: vs) H' (RetQ x Q) E0) : MkQ C sp Q vs H := fun x dx hx hdx ne =>
  k x dx _ ((S.junk hdx).newL (by rw [upd_ne (fun z => ne z.symm)]; exact hx))
end
end WK
namespace WK
open PySem PySem.Spec PyProof.Rows L2
/-- a def called with its last parameters by default -/
def FnGD (P : Program) (w : World) (K : PySem.W.Frag) (mg : Str → Option Value) (base : Heap) (k : Nat) (x : Str) (ps : List Str) (dvs : List V) (sp : Sp) : Prop :=
  ∃ f fd ds, FnOk P w K mg base CX0 k f fd ps sp ∧ mg x = some (.ref f) ∧ PySem.W.keepIn K (.ref f) = true ∧ Binds K fd ps ds ∧ Vals dvs ds
def spD (sp : Sp) (dvs : List V) : Sp := fun vs H Q E => sp (vs ++ dvs) H Q E
section
variable {X : Cx} {k : Nat} {x : Str} {ps : List Str} {dvs : List V} {sp : Sp} {e : Expr} {es : List Expr} {p pos : Pos} {t : TA}
theorem pe_fnD (G : FnGD X.prog X.w X.K X.mg X.base k x ps dvs sp) (hr : Room k X.A) (hg : Gl X x) (ha : PA X (e :: es) t) (hdb : (x == ("__debug__" : Str)) = false := by decide)
    (he : starEach (e :: es) X.env = (false, eval e X.env) :: starEach es X.env := by rfl) (hpl : (backTo pos (starEach es X.env)).any (·.1) = false := by rfl) : PE X (.Call (.Name x p) (e :: es) [] pos) (tFn (spD sp dvs) t) := by
  obtain ⟨f, fd, ds, F, hm, hk, hb, hd⟩ := G
  exact pe_call F hr hg hm hk hb hd pass0 ha hdb he hpl
end
end WK
namespace WK
open PySem PySem.Spec PyProof.Rows L2
theorem Src.map {α β : Type} {J : It} {GB : Hp → Led → Prop} {as : List α} {g : α → β} {R : Hp → V → β → Prop} (s : Src J GB (as.map g) R) : Src J GB as (fun B x a => R B x (g a)) := by
  obtain ⟨G, Y, w, h1, h2⟩ := s.ex
  rw [List.length_map] at w h2
  refine ⟨G, Y, w, h1, fun F B L i H x H' S q y hi => ?_⟩
  obtain ⟨b, B', e, ex, S', r⟩ := h2 F B L i H x H' S q y hi
  rw [List.getElem?_map] at e
  obtain ⟨a, ha, rfl⟩ := Option.map_eq_some_iff.mp e
  exact ⟨a, B', ha, ex, S', r⟩
end WK
namespace WK
open PySem PySem.Spec PyProof.Rows L2
section
variable {o e : Expr} {es : List Expr} {to : TE} {t : TA} {name : Str} {apos cpos : Pos} {T id : String} {r : V → List V → Hp → VK → Prop} {X : Cx}
theorem pe_bmU (K : PySem.W.Frag) (pa : PlainAttrs T) (slot : Slot T name id) (hty : typeOf (.builtin id) = pure (.type "method_descriptor")) (hm : MtR X id r) (ho : PE X o to) (ha : PA X (e :: es) t)
    (hbase : attributeBase o name X.env (eval o X.env) = eval o X.env := by rfl)
    (hfew : ((backTo cpos (starEach (e :: es) X.env)).all (fun x => !x.1) && (backToKw cpos (keywordEach [] X.env)).all (fun x => x.1.isSome)
      && decide ((e :: es).length + ([] : List Keyword).length + (if ([] : List Keyword).isEmpty then 0 else 1) < 30)) = true := by rfl)
    (hline : (apos.endLine == cpos.line) = true := by rfl) (hs : starEach (e :: es) X.env = (false, eval e X.env) :: starEach es X.env := by rfl) (hplain : (backTo cpos (starEach es X.env)).any (·.1) = false := by rfl) (hK : X.K = K := by rfl) :
    PE X (.Call (.Attribute o name apos) (e :: es) [] cpos) (tBM K T r to t) := by
  subst hK
  exact pe_bm pa slot hty hm ho ha hbase hfew hline hs hplain
theorem pe_bm0U (K : PySem.W.Frag) (pa : PlainAttrs T) (slot : Slot T name id) (hty : typeOf (.builtin id) = pure (.type "method_descriptor")) (hm : MtR X id r) (ho : PE X o to)
    (hbase : attributeBase o name X.env (eval o X.env) = eval o X.env := by rfl) (hline : (apos.endLine == cpos.line) = true := by rfl) (hK : X.K = K := by rfl) : PE X (.Call (.Attribute o name apos) [] [] cpos) (tBM0 K T r to) := by
  subst hK
  exact pe_bm0 pa slot hty hm ho hbase hline
end
section
variable {K : PySem.W.Frag} {F : Ent} {B H : Hp} {L : Led} {σ : L2.St} {Q : VK} {to : TE} {t : TA} {T : String} {r : V → List V → Hp → VK → Prop} {v : V} {a : Addr}
def BmQ (K : PySem.W.Frag) (T : String) (r : V → List V → Hp → VK → Prop) (t : TA) (σ : L2.St) (Q : VK) : VK := fun x H1 => tyV K T x H1 ∧ t σ H1 fun xs H2 => r x xs H2 Q
theorem r_bm (k : to σ H (BmQ K T r t σ Q)) : tBM K T r to t σ H Q := k
theorem r_bm0 (k : to σ H (BmQ K T r tNil σ Q)) : tBM0 K T r to σ H Q := k
theorem bmS {z : Str} (k : t σ H fun xs H2 => r (.str z) xs H2 Q) : BmQ K "str" r t σ Q (.str z) H := ⟨rfl, k⟩
theorem bmL {xs : List V} (h : SqL K H a xs) (k : t σ H fun xs H2 => r (.ref a) xs H2 Q) : BmQ K "list" r t σ Q (.ref a) H := ⟨.inl ⟨rfl, xs, h⟩, k⟩
theorem bmD {kvs : List (Key × V)} (h : H a = some (.dK kvs)) (k : t σ H fun xs H2 => r (.ref a) xs H2 Q) : BmQ K "dict" r t σ Q (.ref a) H := ⟨.inr (.inr (.inl ⟨rfl, .inl ⟨kvs, h⟩⟩)), k⟩
theorem bmDL {ds : List PyData} (S : Ok F B L H) (h : Dp K B v (.list ds)) (k : t σ H fun xs H2 => r v xs H2 Q) : BmQ K "list" r t σ Q v H := by
  obtain ⟨a, xs, rfl, hq, _⟩ := Dp.lst_inv h
  exact bmL (S.sqB hq) k
end
end WK

namespace WK
open PySem PySem.Spec PyProof.Rows L2
/-! ### data that can be told apart -/
theorem lay_all {ds : List PyData} (h : ∀ d ∈ ds, d.canLay0 = true) : PyData.canLayAll0 ds = true := by
  induction ds with
  | nil => rfl
  | cons d ds ih =>
    show (d.canLay0 && PyData.canLayAll0 ds) = true
    rw [h d (.head _), ih fun x hx => h x (.tail _ hx)]
    rfl
theorem depth_all {ds : List PyData} {n : Nat} (h : ∀ d ∈ ds, d.depth ≤ n) : PyData.depthAll ds ≤ n := by
  induction ds with
  | nil => exact Nat.zero_le _
  | cons d ds ih =>
    show max d.depth (PyData.depthAll ds) ≤ n
    exact Nat.max_le.mpr ⟨h d (.head _), ih fun x hx => h x (.tail _ hx)⟩
/-- shaped, with its depth -/
def Shp (n : Nat) (d : PyData) : Prop := d.canLay0 = true ∧ d.depth ≤ n
theorem Shp.lst {n : Nat} {ds : List PyData} (h : ∀ d ∈ ds, Shp n d) : Shp (n + 1) (.list ds) := ⟨lay_all fun d hd => (h d hd).1, Nat.succ_le_succ (depth_all fun d hd => (h d hd).2)⟩
theorem Shp.tup {n : Nat} {ds : List PyData} (h : ∀ d ∈ ds, Shp n d) : Shp (n + 1) (.tuple ds) := ⟨lay_all fun d hd => (h d hd).1, Nat.succ_le_succ (depth_all fun d hd => (h d hd).2)⟩
theorem Shp.int {n : Nat} {i : Int} : Shp n (.int i) := ⟨rfl, Nat.zero_le _⟩
theorem Shp.bl {n : Nat} {i : Bool} : Shp n (.bool i) := ⟨rfl, Nat.zero_le _⟩
theorem Shp.str {n : Nat} {z : Str} (h : z.cps.all (· < 0x110000) = true) : Shp n (.str z) := ⟨h, Nat.zero_le _⟩
theorem Shp.ok {n : Nat} {d : PyData} (h : Shp n d) (hn : n ≤ 64) : SeqAt.shaped d = true := by
  unfold SeqAt.shaped
  rw [h.1, decide_eq_true (Nat.le_trans h.2 hn)]
  rfl
section
variable {P : Program} {w : World} {K : PySem.W.Frag} {H B : Hp} {Q : VK} {F : Ent} {L : Led} {x y : V} {d : PyData} {n : Nat}
theorem v_neSame (S : Ok F B L H) (h1 : Dp K B x d) (h2 : Dp K B y d) (sh : Shp n d) (hn : n ≤ 64) (k : Q (.bl false) H) : OpU P w K (compareOp .NotEq) x y H Q :=
  .ofK (r := rNeD) (fun _ al => op_neD al.hu64) ⟨d, d, S.dp h1, S.dp h2, sh.ok hn, sh.ok hn, by rw [SeqAt.eqv_refl d sh.1]; exact k⟩
theorem v_eqSame (S : Ok F B L H) (h1 : Dp K B x d) (h2 : Dp K B y d) (sh : Shp n d) (hn : n ≤ 64) (k : Q (.bl true) H) : OpU P w K (compareOp .Eq) x y H Q :=
  .ofK (r := rEqD) (fun _ al => op_eqD al.hu64) ⟨d, d, S.dp h1, S.dp h2, sh.ok hn, sh.ok hn, by rw [SeqAt.eqv_refl d sh.1]; exact k⟩
theorem eqV_str {a b : Str} : eqV (.str a) (.str b) = decide (a = b) := by
  show (a == b) = decide (a = b)
  by_cases h : a = b
  · subst h; simp
  · rw [decide_eq_false h]; exact beq_eq_false_iff_ne.mpr h
theorem inV_strs (z : Str) (zs : List Str) : inV (.str z) (zs.map V.str) = decide (z ∈ zs) := by
  unfold inV
  rw [List.any_map]
  induction zs with
  | nil => rfl
  | cons a zs ih =>
    rw [List.any_cons, ih]
    show (eqV (.str a) (.str z) || _) = _
    rw [eqV_str]
    by_cases h : a = z
    · subst h; simp
    · rw [decide_eq_false h, Bool.false_or]
      by_cases h2 : z ∈ zs
      · rw [decide_eq_true h2]; exact (decide_eq_true (List.mem_cons_of_mem _ h2)).symm
      · rw [decide_eq_false h2]; exact (decide_eq_false (fun w => by rcases List.mem_cons.mp w with w | w; exact h w.symm; exact h2 w)).symm
theorem flat_strs (zs : List Str) : (zs.map V.str).all flatV = true := List.all_eq_true.mpr fun x hx => by
  obtain ⟨z, _, rfl⟩ := List.mem_map.mp hx
  rfl
theorem v_inStrs {z : Str} {zs : List Str} (S : Ok F B L H) (h : Dp K B y (.list (zs.map PyData.str))) (k : Q (.bl (decide (z ∈ zs))) H) : OpU P w K (compareOp .In) (.str z) y H Q := by
  obtain ⟨a, xs, rfl, hq, ha⟩ := Dp.lst_inv h
  obtain rfl := ha.strs
  exact .ofK (r := fun K => rIn K false) (fun _ _ => op_in_seq) ⟨a, _, rfl, .inl (S.sqB hq), rfl, flat_strs zs, by rw [if_neg (by decide), inV_strs]; exact k⟩
theorem v_indexStrs {z : Str} {zs : List Str} {j : Nat} (S : Ok F B L H) (h : Dp K B x (.list (zs.map PyData.str))) (hj : zs[j]? = some z) (hn : ∀ m, m < j → zs[m]? ≠ some z) (k : Q (.int (j : Nat)) H) : MetU P w K "list.index" x [.str z] H Q := by
  obtain ⟨a, xs, rfl, hq, ha⟩ := Dp.lst_inv h
  obtain rfl := ha.strs
  refine .ofK (r := rIndex) (fun _ _ => mt_index) ⟨a, _, .str z, j, .str z, rfl, rfl, S.sqB hq, rfl, flat_strs zs, by rw [List.getElem?_map, hj]; rfl, by rw [eqV_str]; exact decide_eq_true rfl, fun m z' hm hz' => ?_, k⟩
  rw [List.getElem?_map] at hz'
  obtain ⟨z2, e1, rfl⟩ := Option.map_eq_some_iff.mp hz'
  rw [eqV_str]
  exact decide_eq_false fun e => hn m hm (by rw [e1, e])
/-- slices of data -/
theorem cutV_to (xs : List V) (j : Nat) : cutV xs none (some (j : Int)) = xs.take j := by
  unfold cutV
  rw [HT.sIx_none, HT.sIx_nat, List.drop_zero, Nat.sub_zero]
  rcases Nat.le_total j xs.length with h | h
  · rw [Nat.min_eq_left h]
  · rw [Nat.min_eq_right h, List.take_length, List.take_of_length_le h]
theorem cutV_from (xs : List V) (j : Nat) : cutV xs (some (j : Int)) none = xs.drop j := by
  unfold cutV
  rw [HT.sIx_none, HT.sIx_nat]
  rcases Nat.le_total j xs.length with h | h
  · rw [Nat.min_eq_left h]
    exact List.take_of_length_le (by rw [List.length_drop]; exact Nat.le_refl _)
  · rw [Nat.min_eq_right h, List.drop_length, List.drop_of_length_le h]
    simp
theorem _root_.L2.DpAll.take {vs : List V} {ds : List PyData} (h : DpAll K B vs ds) (j : Nat) : DpAll K B (vs.take j) (ds.take j) := by
  induction j generalizing vs ds with
  | zero => exact .nil
  | succ j ih =>
    cases h with
    | nil => exact .nil
    | cons h t => exact .cons h (ih t)
theorem _root_.L2.DpAll.drop {vs : List V} {ds : List PyData} (h : DpAll K B vs ds) (j : Nat) : DpAll K B (vs.drop j) (ds.drop j) := by
  induction j generalizing vs ds with
  | zero => exact h
  | succ j ih =>
    cases h with
    | nil => exact .nil
    | cons h t => exact ih t
theorem _root_.L2.DpAll.rev {vs : List V} {ds : List PyData} (h : DpAll K B vs ds) : DpAll K B vs.reverse ds.reverse := by
  induction vs generalizing ds with
  | nil => cases h; exact .nil
  | cons v vs ih =>
    cases h with
    | cons h t =>
      rw [List.reverse_cons, List.reverse_cons]
      exact (ih t).append (.cons h .nil)
theorem v_slTo {ds : List PyData} {j : Nat} (S : Ok F B L H) (h : Dp K B x (.list ds)) (k : ∀ r B' H', Ex B B' → Ok F B' L H' → Dp K B' r (.list (ds.take j)) → Q r H') : SlU P w K x none (some (j : Int)) H Q := by
  obtain ⟨a, xs, rfl, hq, ha⟩ := Dp.lst_inv h
  refine .ofK (r := rSlL) (fun _ _ => sl_list) ⟨a, xs, rfl, S.sqB hq, fun p hp => ?_⟩
  rw [cutV_to]
  obtain ⟨B', e, S', hD⟩ := (S.newL (o := .lst (xs.take j)) hp).toData (ha.take j)
  exact k _ _ _ e S' hD
theorem v_slFrom {ds : List PyData} {j : Nat} (S : Ok F B L H) (h : Dp K B x (.list ds)) (k : ∀ r B' H', Ex B B' → Ok F B' L H' → Dp K B' r (.list (ds.drop j)) → Q r H') : SlU P w K x (some (j : Int)) none H Q := by
  obtain ⟨a, xs, rfl, hq, ha⟩ := Dp.lst_inv h
  refine .ofK (r := rSlL) (fun _ _ => sl_list) ⟨a, xs, rfl, S.sqB hq, fun p hp => ?_⟩
  rw [cutV_from]
  obtain ⟨B', e, S', hD⟩ := (S.newL (o := .lst (xs.drop j)) hp).toData (ha.drop j)
  exact k _ _ _ e S' hD
/-- e[::-1] of a list -/
def RevQ (K : PySem.W.Frag) (Q : VK) : VK := fun x H1 => ∃ a xs, x = .ref a ∧ SqL K H1 a xs ∧ ∀ p, H1 p = none → Q (.ref p) (upd H1 p (.lst xs.reverse))
theorem r_revL {te : TE} {σ : L2.St} (k : te σ H (RevQ K Q)) : tRevL K te σ H Q := k
theorem revD {ds : List PyData} (S : Ok F B L H) (h : Dp K B x (.list ds)) (k : ∀ r B' H', Ex B B' → Ok F B' L H' → Dp K B' r (.list ds.reverse) → Q r H') : RevQ K Q x H := by
  obtain ⟨a, xs, rfl, hq, ha⟩ := Dp.lst_inv h
  refine ⟨a, xs, rfl, S.sqB hq, fun p hp => ?_⟩
  obtain ⟨B', e, S', hD⟩ := (S.newL (o := .lst xs.reverse) hp).toData ha.rev
  exact k _ _ _ e S' hD
/-! dicts -/
theorem merge_new {acc kvs : List (Key × V)} (nd : ((acc ++ kvs).map (·.1)).Nodup) : mergeK acc kvs = acc ++ kvs := by
  induction kvs generalizing acc with
  | nil => rw [List.append_nil]; rfl
  | cons p kvs ih =>
    have e : acc ++ p :: kvs = (acc ++ [p]) ++ kvs := by rw [List.append_assoc]; rfl
    have h1 : valV acc p.1 = none := valV_none fun z => by
      rw [List.map_append] at nd
      have := (List.nodup_append.mp nd).2.2 _ z p.1 (by simp)
      exact this rfl
    show mergeK (putK acc p.1 p.2) kvs = _
    rw [putK_new _ h1, e]
    exact ih (by rw [← e]; exact nd)
/-- dict(a list of pairs), the keys all new -/
theorem v_dictP {a : Addr} {ps : List Addr} {kvs : List (Key × V)} (S : Ok F B L H) (h : SqL K H a (ps.map V.ref)) (hp : Paired (fun p (kv : Key × V) => SqT K H p [kV kv.1, kv.2]) ps kvs) (nd : (kvs.map (·.1)).Nodup)
    (k : ∀ D H', Ok F B ((D, .dK kvs) :: L) H' → Q (.ref D) H') : CallU P w K (.type "dict") [.ref a] H Q := by
  refine .ofK (r := fun K xs H Q => ∃ (a : Addr) (ps : List Addr) (kvs : List (Key × V)), xs = [.ref a] ∧ SqL K H a (ps.map V.ref) ∧ Paired (fun p kv => SqT K H p [kV kv.1, kv.2]) ps kvs ∧ ∀ p, H p = none → Q (.ref p) (upd H p (.dK (mergeK [] kvs))))
    (fun _ al => call_dictP al.calm) ⟨a, ps, kvs, rfl, h, hp, fun D hD => ?_⟩
  rw [merge_new (acc := []) nd]
  exact k D _ (S.newL hD)
theorem pairs_ex {xs : List V} {m : List (Str × Int)} (h : DpAll K B xs (m.map fun p => .tuple [.str p.1, .int p.2])) (e : Ex B H) : ∃ ps : List Addr, xs = ps.map V.ref ∧ Paired (fun p (kv : Key × V) => SqT K H p [kV kv.1, kv.2]) ps (m.map fun p => ((.inr p.1 : Key), V.int p.2)) := by
  induction m generalizing xs with
  | nil => exact ⟨[], h.nil_inv, .nil⟩
  | cons p m ih =>
    obtain ⟨v, r, rfl, hv, hr⟩ := DpAll.cons_inv h
    obtain ⟨ps, rfl, hp⟩ := ih hr
    obtain ⟨b, ys, rfl, hq, hy⟩ := Dp.tup_inv hv
    obtain ⟨v1, _, rfl, h1, hy⟩ := hy.cons_inv
    obtain ⟨v2, _, rfl, h2, hy⟩ := hy.cons_inv
    obtain rfl := hy.nil_inv
    obtain rfl := h1.str_inv
    obtain rfl := h2.int_inv
    exact ⟨b :: ps, rfl, .cons (e.sqT hq) hp⟩
theorem inr_nodup {names : List Str} (h : names.Nodup) : (names.map (Sum.inr : Str → Key)).Nodup := by
  induction names with
  | nil => exact List.nodup_nil
  | cons s r ih =>
    obtain ⟨h1, h2⟩ := List.nodup_cons.mp h
    refine List.nodup_cons.mpr ⟨fun z => ?_, ih h2⟩
    obtain ⟨x, hx, e⟩ := List.mem_map.mp z
    exact h1 (Sum.inr.inj e ▸ hx)
theorem v_dictI {m : List (Str × Int)} (S : Ok F B L H) (h : Dp K B x (.list (m.map fun p => .tuple [.str p.1, .int p.2]))) (nd : (m.map (·.1)).Nodup)
    (k : ∀ D H', Ok F B ((D, .dK (m.map fun p => ((.inr p.1 : Key), V.int p.2))) :: L) H' → Q (.ref D) H') : CallU P w K (.type "dict") [x] H Q := by
  obtain ⟨a, xs, rfl, hq, ha⟩ := Dp.lst_inv h
  obtain ⟨ps, rfl, hp⟩ := pairs_ex ha S.ex
  refine v_dictP S (S.sqB hq) hp ?_ k
  rw [List.map_map]
  have : (m.map ((fun kv : Key × V => kv.1) ∘ fun p : Str × Int => ((.inr p.1 : Key), V.int p.2))) = (m.map (·.1)).map Sum.inr := by rw [List.map_map]; rfl
  rw [this]
  exact inr_nodup nd
/-- two dicts alike, in any order -/
theorem op_neR {X : Cx} (hu : X.A.units < cLine) : OpR X (compareOp .NotEq) (fun x y H Q => ∃ a b ks ls, x = .ref a ∧ y = .ref b ∧ Rd H a (.dK ks) ∧ Rd H b (.dK ls) ∧ ks.length = ls.length ∧ (∀ p ∈ ks, valV ls p.1 = some p.2 ∧ flatB p.2 = true) ∧ Q (.bl false) H) := by
  intro pins s σ H x y v u Q I rx ry h
  obtain ⟨a, b, ks, ls, rfl, rfl, ea, eb, hlen, hp, q⟩ := h
  obtain rfl : v = Value.ref a := rx
  obtain rfl : u = Value.ref b := ry
  obtain ⟨_, ya, va, ra, da⟩ := dk_rd I.hok ea
  obtain ⟨_, yb, vb, rb, db⟩ := dk_rd I.hok eb
  have hl : va.length = vb.length := by rw [← ra.length, ← rb.length]; exact hlen
  exact PySem.W.keq_ne (knd := mixKind X.prog X.w) (r := true) ya yb da db hu (fun _ => hits_all rb ra hp) (fin_bl I q (by simp [hl]))
theorem v_neDict {a b : Addr} {ks ls : List (Key × V)} (h1 : Rd H a (.dK ks)) (h2 : Rd H b (.dK ls)) (hl : ks.length = ls.length) (hp : ∀ p ∈ ks, valV ls p.1 = some p.2 ∧ flatB p.2 = true) (k : Q (.bl false) H) : OpU P w K (compareOp .NotEq) (.ref a) (.ref b) H Q :=
  .of (fun _ al => op_neR (by have := al.hu64; omega)) ⟨a, b, ks, ls, rfl, rfl, h1, h2, hl, hp, k⟩
/-- what a value leads to may be locked behind it -/
def FrzQ (Q : VK) : VK := fun v H' => Q v H' ∨ ∃ d u, H' d = some u ∧ Mut (some u) ∧ ∀ od, Q v (upd H' d (.frz od u))
def tFrzA (t : TE) : TE := fun σ H Q => t σ H (FrzQ Q)
theorem pe_frzA {X : Cx} {e : Expr} {t : TE} (h : PE X e t) : PE X e (tFrzA t) := by
  refine ⟨fun pins s σ H Q I hw => ?_⟩
  refine thn (h.run pins s σ H _ I hw) fun v s' ⟨x, H', I', r, q⟩ => ?_
  rcases q with q | ⟨d, u, hd, mu, q⟩
  · exact ⟨x, H', I', r, q⟩
  · obtain ⟨od, I1⟩ := I'.lock hd mu
    exact ⟨x, _, I1, r, q od⟩
theorem r_frzA {t : TE} {σ : L2.St} (k : t σ H (FrzQ Q)) : tFrzA t σ H Q := k
theorem frzQ {v : V} {d : Addr} {u : HO} (h : H d = some u) (mu : Mut (some u)) (k : ∀ od, Q v (upd H d (.frz od u))) : FrzQ Q v H := .inr ⟨d, u, h, mu, k⟩
end
end WK
namespace WK
open PySem PySem.Spec PyProof.Rows L2
/-! cuts -/
def tCut (t : TE) : TE := fun σ H Q => ∃ R : VK, t σ H R ∧ ∀ v H', R v H' → Q v H'
theorem pe_cut {X : Cx} {e : Expr} {t : TE} (h : PE X e t) : PE X e (tCut t) := by
  refine ⟨fun pins s σ H Q I hw => ?_⟩
  obtain ⟨R, h1, h2⟩ := hw
  exact thn (h.run pins s σ H R I h1) fun v s' ⟨x, H', I', r, q⟩ => ⟨x, H', I', r, h2 _ _ q⟩
theorem cutE {t : TE} {σ : L2.St} {H : Hp} {Q : VK} (R : VK) (h : t σ H R) (k : ∀ v H', R v H' → Q v H') : tCut t σ H Q := ⟨R, h, k⟩
def tCutS (t : TS) : TS := fun D σ H => ∃ N : L2.St → Hp → Prop, t { D with nx := N } σ H ∧ ∀ σ' H', N σ' H' → D.nx σ' H'
theorem ps_cut {X : Cx} {st : Stmt} {t : TS} (h : PS X st t) : PS X st (tCutS t) := by
  refine ⟨fun pins s σ H D I hw => ?_⟩
  obtain ⟨N, h1, h2⟩ := hw
  refine thn (h.run pins s σ H _ I h1) fun fl s' q => ?_
  cases fl with
  | next =>
    obtain ⟨σ', H', I', q⟩ := q
    exact ⟨σ', H', I', h2 _ _ q⟩
  | ret v => exact q
  | brk => exact q
  | cont => exact q
theorem cutS {t : TS} {σ : L2.St} {H : Hp} {D : Ends} (N : L2.St → Hp → Prop) (h : t { D with nx := N } σ H) (k : ∀ σ' H', N σ' H' → D.nx σ' H') : tCutS t D σ H := ⟨N, h, k⟩
end WK
namespace WK
open PySem PySem.Spec PyProof.Rows L2
/-- a comprehension over a list of data, any invariant -/
theorem lcDL {α : Type} {F : Ent} {B H1 : Hp} {L : Led} {σ : L2.St} {K : PySem.W.Frag} {P : Program} {w : World} {tg : Expr} {as : List α} {enc : α → PyData} {v : V} {g : TG} {tt : TT} {te : TE} {vs : List Nat} {Q : VK} (S : Ok F B L H1) (h : Dp K B v (.list (as.map enc))) (I : Nat → List V → Hp → Led → Prop) (h0 : I 0 [] B L)
    (hs : ∀ i a x acc B0 B1 L D H, as[i]? = some a → I i acc B0 L → Ex B B0 → Ex B0 B1 → Ok F B1 ((D, .lst acc) :: L) H → Dp K B1 x (enc a) → g x (wipe σ vs) H fun σ2 H2 => wipe σ2 vs = wipe σ vs ∧ tt σ2 H2 fun b H3 =>
      if b = true then te σ2 H3 (Acc F (fun acc B1 L1 => Ex B B1 ∧ I (i + 1) acc B1 L1) D) else Skp F (fun acc B1 L1 => Ex B B1 ∧ I (i + 1) acc B1 L1) D H3)
    (hd : ∀ acc B1 L D H, I as.length acc B1 L → Ex B B1 → Ok F B1 ((D, .lst acc) :: L) H → Q (.ref D) H) : ItU P w K tg v H1 (LcW g tt te vs σ Q) := by
  obtain ⟨a, xs, rfl, hq, ha⟩ := Dp.lst_inv h
  refine ItU.list (S.sqB hq) (lcD (src_lst (xs := xs) (as := as) (enc := enc)) S (fun i acc B1 L1 => Ex B B1 ∧ I i acc B1 L1) ⟨Ex.refl _, h0⟩ ?_ ?_ ?_)
  · rintro i acc B1 L1 D _ ⟨e, _⟩
    exact ⟨.inl (e.sqL hq), ha.up e⟩
  · rintro i a x acc B0 B1 L1 D H hget ⟨e, q⟩ e1 S1 hx
    exact hs i a x acc B0 B1 L1 D H hget q e e1 S1 hx
  · rintro acc B1 L1 D H ⟨e, q⟩ S1
    exact hd acc B1 L1 D H q e S1
end WK

namespace WK
open PySem PySem.Spec PyProof.Rows L2 PySem.W PySem.Calls
/-! a, *r = a list -/
section
variable {X : Cx} {pos : Pos}
def gStar (K : PySem.W.Frag) (n i : Nat) (t : TGs) : TG := fun v σ H Q => ∃ a xs, v = .ref a ∧ SqL K H a xs ∧ n ≤ xs.length + 1 ∧ xs.length ≤ 16384 ∧
  ∀ p, H p = none → t (xs.take i ++ [.ref p] ++ (xs.drop i).drop (xs.length + 1 - n)) σ (upd H p (.lst ((xs.drop i).take (xs.length + 1 - n)))) Q
theorem vals_take {xs : List V} {us : List Value} (r : Vals xs us) : ∀ j, Vals (xs.take j) (us.take j) := by
  induction r with
  | nil => intro j; simp only [List.take_nil]; exact .nil
  | cons h t ih =>
    intro j
    cases j with
    | zero => exact .nil
    | succ j => exact .cons h (ih j)
theorem vals_drop {xs : List V} {us : List Value} (r : Vals xs us) : ∀ j, Vals (xs.drop j) (us.drop j) := by
  induction r with
  | nil => intro j; simp only [List.drop_nil]; exact .nil
  | cons h t ih =>
    intro j
    cases j with
    | zero => exact .cons h t
    | succ j => exact ih j
theorem star_items {pins : List (Addr × Obj)} {s : Shared} {σ : L2.St} {H : Hp} {a : Addr} {xs : List V} {n i : Nat} {Q : List Value → Shared → Prop} (hc : X.calm = true) (I : Inv X pins σ H s) (hq : SqL X.K H a xs) (hi : i < n) (hn : n ≤ xs.length + 1) (hz : xs.length ≤ 16384)
    (h : ∀ p us s', H p = none → Inv X pins σ (upd H p (.lst ((xs.drop i).take (xs.length + 1 - n)))) s' → Vals (xs.take i ++ [.ref p] ++ (xs.drop i).drop (xs.length + 1 - n)) us → Q us s') :
    wpAny (model X.prog X.w) X.A (unpackItems (.ref a) n (some i)) Q X.xe s := by
  obtain ⟨its, rv, pl, _⟩ := I.list hq
  have hl := pl.isList
  have hlen : xs.length = its.length := rv.length
  have hh := I.ok.hd hc
  generalize hit : its.toArray = items at hl
  have hsz : items.size = xs.length := by rw [← hit, List.size_toArray, hlen]
  have hlist : items.toList = its := by rw [← hit]
  have hlt : a ≠ s.heap.objs.size := by obtain ⟨o, ho, _⟩ := hl; exact Nat.ne_of_lt (Heap.lt_size ho)
  unfold unpackItems
  refine wpAny_bind ?_
  unfold notIterableAtAll
  refine wpAny_bind (wpAny_specialOf hl.typeIs slot_list_iter.lookup ?_)
  refine wpAny_pure ?_
  simp only [Bool.false_eq_true, if_false]
  refine wpAny_bind (wpAny_holding (wpAny_pyIter_list hl ?_))
  refine wpAny_bind (wpAny_holding (kun_draw hlt i 0 _ _ ⟨_, Heap.get?_push_size _ rfl, rfl, rfl⟩ (hl.push _) (by omega) fun h₁ hit₁ hs₁ => ?_))
  have hl₁ : h₁.IsList a items := (hl.push _).extBut hs₁.extBut hlt
  rw [Nat.zero_add] at hit₁
  have hit₁' := hit₁
  obtain ⟨oi, hoi, _⟩ := hit₁'
  have hl₁' := hl₁
  obtain ⟨ol, hol, _⟩ := hl₁'
  rw [List.drop_zero]
  have hfl : (items.toList.take i).length = i := by rw [List.length_take, Array.length_toList]; omega
  rw [if_neg (show ¬ ((items.toList.take i).length < i) by rw [hfl]; omega)]
  refine wpAny_bind (wpAny_holding (kun_collect (s := { s with heap := h₁ }) (T := "list_iterator") (.inr (.inr (.inl rfl))) (Walks.list (A := X.A.in1) hh s.heap.objs.size a hlt items) (fun j u st => st.1.typeIs) (k := i) (by omega) ⟨hit₁, hl₁⟩ (Heap.lt_size hoi) (Heap.lt_size hol) (fun h₂ tk hk => ?_) (by rw [sizeLine_eq]; omega)))
  have hrl : (items.toList.drop i).length = items.size - i := by rw [List.length_drop, Array.length_toList]
  have hmid : (items.toList.drop i).length - (n - 1 - i) = items.size + 1 - n := by rw [hrl]; omega
  show wpAny _ _ (if (items.toList.drop i).length < n - 1 - i then _ else _) _ _ _
  rw [if_neg (by rw [hrl]; omega)]
  show wpAny _ _ (newList ((items.toList.drop i).take ((items.toList.drop i).length - (n - 1 - i))) >>= fun d => pure (items.toList.take i ++ [d] ++ (items.toList.drop i).drop ((items.toList.drop i).length - (n - 1 - i)))) _ _ _
  rw [hmid, hlist, hsz]
  have he : ∀ b o, s.heap.get? b = some o → h₂.get? b = some o := fun b o e => by
    have hb : b ≠ s.heap.objs.size := Nat.ne_of_lt (Heap.lt_size e)
    exact hk b o hb (hs₁.extBut b o hb (Heap.get?_push_of_some _ e))
  have I2 : Inv X pins σ H { s with heap := h₂, toks := tk } := I.kept he
  have hlm : ((its.drop i).take (xs.length + 1 - n)).length ≤ sizeLine := by rw [List.length_take, List.length_drop, sizeLine_eq]; omega
  refine wpAny_bind (wpAny_newList ?_ hlm)
  refine wpAny_pure ?_
  have I3 := I2.laid (t' := tk) (a := h₂.objs.size) (o := .lst ((xs.drop i).take (xs.length + 1 - n))) (h' := h₂.push { cls := .type "list", data := .seq ((its.drop i).take (xs.length + 1 - n)).toArray })
    (fun b u e => Heap.get?_push_of_some _ e) (Nat.le_refl _) ⟨by rw [List.length_take, List.length_drop, sizeLine_eq]; omega, _, 0, vals_take (vals_drop rv i) _, Heap.get?_push_size _ rfl⟩
  refine h h₂.objs.size _ _ (I2.hok.fresh (Nat.le_refl _)) I3 ?_
  have one : Vals [V.ref h₂.objs.size] [Value.ref h₂.objs.size] := .cons (show RelV (.ref h₂.objs.size) (.ref h₂.objs.size) from rfl) .nil
  exact ((vals_take rv i).append one).append (vals_drop (vals_drop rv i) _)
theorem pg_star (K : PySem.W.Frag) {es : List Expr} {k : Nat} {t : TGs} {n i : Nat} (h : PGs X es t) (hi : i < n) (hK : X.K = K := by rfl) (hc : X.calm = true := by rfl)
    (hn : (assignEach es X.env).length = n := by rfl) (hst : (assignEach es X.env).findIdx? (·.1) = some i := by rfl) : PG X (.Tuple es k pos) (gStar K n i t) := by
  subst hK
  refine ⟨fun pins s σ H v u Q I r hw => ?_⟩
  obtain ⟨a, xs, e1, hq, hl, hz, hw⟩ := hw
  subst e1
  cases r
  rw [PyProof.Rows.assign_Tuple]
  refine wpAny_bind (wpAny_standAt ?_)
  unfold unpack
  rw [hn, hst]
  refine wpAny_bind (wpAny_holding (star_items hc I hq hi hl hz fun p us s' hp I' r' => ?_))
  exact h.run pins s' σ _ _ us Q I' r' (hw p hp)
theorem pgs_star {e : Expr} {es : List Expr} {t : TG} {u : TGs} {p : Pos} (h1 : PG X e t) (h2 : PGs X es u)
    (hs : (assignEach (.Starred e p :: es) X.env).map (·.2) = assign e X.env :: (assignEach es X.env).map (·.2) := by rfl) : PGs X (.Starred e p :: es) (gCons t u) := by
  refine ⟨fun pins s σ H vs us Q I r h => ?_⟩
  obtain ⟨v, vr, e1, h⟩ := h
  subst e1
  cases r with
  | cons r rr =>
    rw [hs]
    refine assignInOrder_cons (thn (h1.run pins s σ H _ _ _ I r h) fun _ s1 ⟨σ1, H1, I1, q1⟩ => ?_)
    exact h2.run pins s1 σ1 H1 _ _ Q I1 rr q1
end
end WK
namespace WK
open PySem PySem.Spec PyProof.Rows L2
theorem pg_lstU (K : PySem.W.Frag) {X : Cx} {es : List Expr} {k : Nat} {t : TGs} {n : Nat} {pos : Pos} (h : PGs X es t) (hK : X.K = K := by rfl) (hc : X.calm = true := by rfl) (hn : (assignEach es X.env).length = n := by rfl) (hst : (assignEach es X.env).findIdx? (·.1) = none := by rfl) :
    PG X (.Tuple es k pos) (gLst K n t) := by
  subst hK
  exact pg_lst hc h hn hst
end WK
namespace WK
open PySem PySem.Spec PyProof.Rows L2
/-! texts -/
def numS (i : Int) : Str := (toString i : String)
section
variable {P : Program} {w : World} {K : PySem.W.Frag} {H B : Hp} {Q : VK} {F : Ent} {L : Led} {x : V}
theorem v_strI {i : Int} (h : i.natAbs.log2 < 1920) (k : Q (.str (numS i)) H) : CallU P w K (.type "str") [.int i] H Q := .of (fun _ _ => call_str_int) ⟨i, rfl, h, k⟩
theorem v_joinL {a : Addr} {z : Str} {ys : List Str} (h : SqL K H a (ys.map V.str)) (hz : (ys.map (·.length)).sum + ys.length * z.length ≤ 16777216) (k : Q (.str (Txt.join z ys)) H) : MetU P w K "str.join" (.str z) [.ref a] H Q :=
  .ofK (r := fun K x xs H Q => ∃ a p, ∃ ys : List Str, x = .str a ∧ xs = [.ref p] ∧ (SqL K H p (ys.map V.str) ∨ SqT K H p (ys.map V.str)) ∧ (ys.map (·.length)).sum + ys.length * a.length ≤ 16777216 ∧ Q (.str (Txt.join a ys)) H) (fun _ _ => mt_join) ⟨z, a, ys, rfl, rfl, .inl h, hz, k⟩
theorem v_splitS {z y : Str} (S : Ok F B L H) (hy : (y.length == 0) = false) (hz : z.length + 2 ≤ sizeLine) (k : ∀ p H', Ok F B ((p, .lst ((Txt.split z y).map V.str)) :: L) H' → Q (.ref p) H') : MetU P w K "str.split" (.str z) [.str y] H Q :=
  .of (fun _ _ => mt_split) ⟨z, y, rfl, rfl, hy, hz, fun p hp => k p _ (S.newL hp)⟩
theorem v_startsS {z y : Str} (k : Q (.bl (Txt.startswith z y)) H) : MetU P w K "str.startswith" (.str z) [.str y] H Q := .of (fun _ _ => mt_startswith) ⟨z, y, rfl, rfl, k⟩
theorem v_stripS {z y : Str} (hz : z.length ≤ sizeLine) (k : Q (.str (Txt.stripChars z y)) H) : MetU P w K "str.strip" (.str z) [.str y] H Q := .of (fun _ _ => mt_stripChars) ⟨z, y, rfl, rfl, hz, k⟩
theorem v_intS {z : Str} {n : Int} (h : PySem.intText? z = some n) (hz : z.length ≤ 640) (k : Q (.int n) H) : CallU P w K (.type "int") [.str z] H Q := .of (fun _ _ => call_int_str) ⟨z, n, rfl, h, hz, k⟩
end
end WK
namespace WK
open PySem PySem.Spec PyProof.Rows L2
theorem v_extendN {P : Program} {w : World} {K : PySem.W.Frag} {F : Ent} {B H : Hp} {L : Led} {Q : VK} {p b : Addr} {xs zs : List V} (n : Nat) (S : Ok F B L H) (h : L[n]? = some (p, .lst xs)) (hb : H b = some (.lst zs)) (hz : xs.length + zs.length ≤ sizeLine)
    (k : ∀ H', Ok F B (L.set n (p, .lst (xs ++ zs))) H' → Q .non H') : MetU P w K "list.extend" (.ref p) [.ref b] H Q :=
  .of (fun _ _ => mt_extend) ⟨p, b, xs, zs, rfl, rfl, (S.own _ (List.mem_of_getElem? h)).1, hb, hz, k _ (S.mutN n h)⟩
end WK
namespace WK
open PySem PySem.Spec PyProof.Rows L2
theorem r_gstar {K : PySem.W.Frag} {F : Ent} {B H : Hp} {L : Led} {σ : L2.St} {QG : L2.St → Hp → Prop} {a : Addr} {xs : List V} {n i : Nat} {t : TGs} (S : Ok F B L H) (h : SqL K H a xs) (hn : n ≤ xs.length + 1) (hz : xs.length ≤ 16384)
    (k : ∀ p H', Ok F B ((p, .lst ((xs.drop i).take (xs.length + 1 - n))) :: L) H' → t (xs.take i ++ [.ref p] ++ (xs.drop i).drop (xs.length + 1 - n)) σ H' QG) : gStar K n i t (.ref a) σ H QG := ⟨a, xs, rfl, h, hn, hz, fun p hp => k p _ (S.newL hp)⟩
end WK

namespace WK
open PySem PySem.Spec PyProof.Rows L2
theorem r_rU {g : Int → V} {i : Int} {H : Hp} {Q : VK} (k : Q (g i) H) : rU g (.int i) H Q := ⟨i, rfl, k⟩
/-! lists compared by their lengths -/
section
variable {X : Cx}
theorem op_eqLen (hu : X.A.units + 64 < cLine) : OpR X (compareOp .Eq) (fun x y H Q => ∃ a b xs ys, x = .ref a ∧ y = .ref b ∧ SqL X.K H a xs ∧ SqL X.K H b ys ∧ (xs.length ≠ ys.length ∨ (xs = [] ∧ ys = [])) ∧ Q (.bl (decide (xs.length = ys.length))) H) := by
  intro pins s σ H x y v u Q I rx ry h
  obtain ⟨a, b, xs, ys, rfl, rfl, h1, h2, h3, q⟩ := h
  cases rx
  cases ry
  obtain ⟨is, r1, p1, _⟩ := I.list h1
  obtain ⟨js, r2, p2, _⟩ := I.list h2
  have l1 := r1.length
  have l2 := r2.length
  rcases h3 with h3 | ⟨rfl, rfl⟩
  · refine SeqAt.eq_list_lengthsAt p1.isList p2.isList (by simp only [List.size_toArray, bne_iff_ne, ne_eq]; omega) (by omega) ⟨.bl _, H, I, rfl, ?_⟩
    rw [decide_eq_false h3] at q
    exact q
  · have e1 : is = [] := List.eq_nil_of_length_eq_zero (by rw [← l1]; rfl)
    have e2 : js = [] := List.eq_nil_of_length_eq_zero (by rw [← l2]; rfl)
    subst e1
    subst e2
    refine SeqAt.eq_listAt (e := fun _ => true) p1.isList p2.isList rfl (by omega) (fun j j1 j2 => absurd j1 (Nat.not_lt_zero _)) ⟨.bl _, H, I, rfl, q⟩
theorem op_neLen (hu : X.A.units + 64 < cLine) : OpR X (compareOp .NotEq) (fun x y H Q => ∃ a b xs ys, x = .ref a ∧ y = .ref b ∧ SqL X.K H a xs ∧ SqL X.K H b ys ∧ (xs.length ≠ ys.length ∨ (xs = [] ∧ ys = [])) ∧ Q (.bl (!decide (xs.length = ys.length))) H) := by
  intro pins s σ H x y v u Q I rx ry h
  obtain ⟨a, b, xs, ys, rfl, rfl, h1, h2, h3, q⟩ := h
  cases rx
  cases ry
  obtain ⟨is, r1, p1, _⟩ := I.list h1
  obtain ⟨js, r2, p2, _⟩ := I.list h2
  have l1 := r1.length
  have l2 := r2.length
  rcases h3 with h3 | ⟨rfl, rfl⟩
  · refine (SeqAt.RcNeAt.lists_lengths p1.isList p2.isList (by simp only [List.size_toArray, bne_iff_ne, ne_eq]; omega) (by omega)) X.prog X.w X.xe _ ⟨.bl _, H, I, rfl, ?_⟩
    rw [decide_eq_false h3] at q
    exact q
  · have e1 : is = [] := List.eq_nil_of_length_eq_zero (by rw [← l1]; rfl)
    have e2 : js = [] := List.eq_nil_of_length_eq_zero (by rw [← l2]; rfl)
    subst e1
    subst e2
    refine (SeqAt.RcNeAt.lists (e := fun _ => true) p1.isList p2.isList rfl (by omega) (fun j j1 j2 => absurd j1 (Nat.not_lt_zero _))) X.prog X.w X.xe _ ⟨.bl _, H, I, rfl, q⟩
end
section
variable {P : Program} {w : World} {K : PySem.W.Frag} {H : Hp} {Q : VK} {a b : Addr} {xs ys : List V}
theorem v_eqLen (h1 : SqL K H a xs) (h2 : SqL K H b ys) (h3 : xs.length ≠ ys.length ∨ (xs = [] ∧ ys = [])) (k : Q (.bl (decide (xs.length = ys.length))) H) : OpU P w K (compareOp .Eq) (.ref a) (.ref b) H Q :=
  .ofK (r := fun K x y H Q => ∃ a b xs ys, x = .ref a ∧ y = .ref b ∧ SqL K H a xs ∧ SqL K H b ys ∧ (xs.length ≠ ys.length ∨ (xs = [] ∧ ys = [])) ∧ Q (.bl (decide (xs.length = ys.length))) H) (fun _ al => op_eqLen al.hu64) ⟨a, b, xs, ys, rfl, rfl, h1, h2, h3, k⟩
theorem v_neLen (h1 : SqL K H a xs) (h2 : SqL K H b ys) (h3 : xs.length ≠ ys.length ∨ (xs = [] ∧ ys = [])) (k : Q (.bl (!decide (xs.length = ys.length))) H) : OpU P w K (compareOp .NotEq) (.ref a) (.ref b) H Q :=
  .ofK (r := fun K x y H Q => ∃ a b xs ys, x = .ref a ∧ y = .ref b ∧ SqL K H a xs ∧ SqL K H b ys ∧ (xs.length ≠ ys.length ∨ (xs = [] ∧ ys = [])) ∧ Q (.bl (!decide (xs.length = ys.length))) H) (fun _ al => op_neLen al.hu64) ⟨a, b, xs, ys, rfl, rfl, h1, h2, h3, k⟩
end
end WK
namespace WK
open PySem PySem.Spec PyProof.Rows L2
section
variable {F : Ent} {B H : Hp} {L : Led}
theorem nodup_pick {α : Type} {l : List α} (h : l.Nodup) : ∀ (is : List Nat), is.Nodup → (is.filterMap (l[·]?)).Nodup
  | [], _ => List.nodup_nil
  | i :: is, hn => by
    obtain ⟨h1, h2⟩ := List.nodup_cons.mp hn
    have ih := nodup_pick h is h2
    cases e : l[i]? with
    | none => rw [List.filterMap_cons_none e]; exact ih
    | some x =>
      rw [List.filterMap_cons_some e]
      refine List.nodup_cons.mpr ⟨fun hx => ?_, ih⟩
      obtain ⟨j, hj, ej⟩ := List.mem_filterMap.mp hx
      have := (List.getElem?_inj (List.getElem?_eq_some_iff.mp e).1 h).mp (e.trans ej.symm)
      exact h1 (this ▸ hj)
/-- some of the ledger, in another turn -/
theorem Ok.pick (S : Ok F B L H) (is : List Nat) (nd : is.Nodup) : Ok F B (is.filterMap (L[·]?)) H := by
  have hm : ∀ q ∈ is.filterMap (L[·]?), q ∈ L := fun q hq => by
    obtain ⟨j, _, ej⟩ := List.mem_filterMap.mp hq
    exact List.mem_of_getElem? ej
  refine ⟨S.ex, ?_, fun q hq => S.own q (hm q hq), S.ex0, S.keep, S.kA, S.fB, fun q hq => S.fL q (hm q hq)⟩
  have := nodup_pick S.nd is nd
  rw [List.map_filterMap]
  simpa only [List.getElem?_map] using this
theorem r_glstD {K : PySem.W.Frag} {σ : L2.St} {QG : L2.St → Hp → Prop} {t : TGs} {v : V} {ds : List PyData} {n : Nat} (S : Ok F B L H) (h : Dp K B v (.list ds)) (hn : ds.length = n) (k : ∀ vs, DpAll K B vs ds → t vs σ H QG) : gLst K n t v σ H QG := by
  obtain ⟨a, xs, rfl, hq, ha⟩ := Dp.lst_inv h
  exact ⟨a, xs, rfl, S.sqB hq, by rw [ha.length, hn], k xs ha⟩
end
/-- one of two promises -/
def spOr (a b : Sp) : Sp := fun vs H Q E => a vs H Q E ∨ b vs H Q E
theorem okOr {P : Program} {w : World} {K : PySem.W.Frag} {mg : Str → Option Value} {base : Heap} {CX : CXT} {k : Nat} {f : Addr} {fd : FuncData} {ps : List Str} {a b : Sp} (F : FnOk P w K mg base CX k f fd ps a) (G : FnOk P w K mg base CX k f fd ps b) : FnOk P w K mg base CX k f fd ps (spOr a b) :=
  ⟨fun vs H Q E h => h.elim (F.len vs H Q E) (G.len vs H Q E), fun A outer s H args us vs Q E hr he hb hv h => h.elim (F.run A outer s H args us vs Q E hr he hb hv) (G.run A outer s H args us vs Q E hr he hb hv)⟩
end WK
namespace WK
open PySem PySem.Spec PyProof.Rows L2
section
variable {X : Cx}
theorem op_eqTNil (hu : X.A.units + 64 < cLine) : OpR X (compareOp .Eq) (fun x y H Q => ∃ a b xs, x = .ref a ∧ y = .ref b ∧ SqT X.K H a xs ∧ SqT X.K H b [] ∧ Q (.bl xs.isEmpty) H) := by
  intro pins s σ H x y v u Q I rx ry h
  obtain ⟨a, b, xs, rfl, rfl, h1, h2, q⟩ := h
  cases rx
  cases ry
  obtain ⟨is, r1, p1, _⟩ := I.tuple h1
  obtain ⟨js, r2, p2, _⟩ := I.tuple h2
  have l1 := r1.length
  have e2 : js = [] := List.eq_nil_of_length_eq_zero (by rw [← r2.length]; rfl)
  subst e2
  refine SeqAt.eq_tupleAt (e := fun _ => true) (show s.heap.IsTuple a is.toArray from p1) (show s.heap.IsTuple b #[] from p2) (by omega) (fun j j1 j2 => absurd j2 (Nat.not_lt_zero _)) ⟨.bl _, H, I, rfl, ?_⟩
  have e : ((List.range (min is.toArray.size (#[] : Array Value).size)).all (fun _ => true) && is.toArray.size == (#[] : Array Value).size) = xs.isEmpty := by
    cases xs with
    | nil =>
      have : is = [] := List.eq_nil_of_length_eq_zero (by rw [← l1]; rfl)
      subst this
      rfl
    | cons x xs =>
      cases is with
      | nil => simp at l1
      | cons i is => simp
  rw [e]
  exact q
theorem op_neTNil (hu : X.A.units + 64 < cLine) : OpR X (compareOp .NotEq) (fun x y H Q => ∃ a b xs, x = .ref a ∧ y = .ref b ∧ SqT X.K H a xs ∧ SqT X.K H b [] ∧ Q (.bl (!xs.isEmpty)) H) := by
  intro pins s σ H x y v u Q I rx ry h
  obtain ⟨a, b, xs, rfl, rfl, h1, h2, q⟩ := h
  cases rx
  cases ry
  obtain ⟨is, r1, p1, _⟩ := I.tuple h1
  obtain ⟨js, r2, p2, _⟩ := I.tuple h2
  have l1 := r1.length
  have e2 : js = [] := List.eq_nil_of_length_eq_zero (by rw [← r2.length]; rfl)
  subst e2
  have e : ((List.range (min is.toArray.size (#[] : Array Value).size)).all (fun _ => true) && is.toArray.size == (#[] : Array Value).size) = xs.isEmpty := by
    cases xs with
    | nil =>
      have : is = [] := List.eq_nil_of_length_eq_zero (by rw [← l1]; rfl)
      subst this
      rfl
    | cons x xs =>
      cases is with
      | nil => simp at l1
      | cons i is => simp
  refine (SeqAt.RcNeAt.tuples (e := fun _ => true) (show s.heap.IsTuple a is.toArray from p1) (show s.heap.IsTuple b #[] from p2) (by omega) (fun j j1 j2 => absurd j2 (Nat.not_lt_zero _))) X.prog X.w X.xe _ ⟨.bl _, H, I, rfl, ?_⟩
  rw [e]
  exact q
end
section
variable {P : Program} {w : World} {K : PySem.W.Frag} {F : Ent} {B H : Hp} {L : Led} {Q : VK} {a b p : Addr} {xs : List V}
theorem v_eqTNil (h1 : SqT K H a xs) (h2 : SqT K H b []) (k : Q (.bl xs.isEmpty) H) : OpU P w K (compareOp .Eq) (.ref a) (.ref b) H Q :=
  .ofK (r := fun K x y H Q => ∃ a b xs, x = .ref a ∧ y = .ref b ∧ SqT K H a xs ∧ SqT K H b [] ∧ Q (.bl xs.isEmpty) H) (fun _ al => op_eqTNil al.hu64) ⟨a, b, xs, rfl, rfl, h1, h2, k⟩
theorem v_neTNil (h1 : SqT K H a xs) (h2 : SqT K H b []) (k : Q (.bl (!xs.isEmpty)) H) : OpU P w K (compareOp .NotEq) (.ref a) (.ref b) H Q :=
  .ofK (r := fun K x y H Q => ∃ a b xs, x = .ref a ∧ y = .ref b ∧ SqT K H a xs ∧ SqT K H b [] ∧ Q (.bl (!xs.isEmpty)) H) (fun _ al => op_neTNil al.hu64) ⟨a, b, xs, rfl, rfl, h1, h2, k⟩
/-- data == (): by its count -/
theorem v_eqTNilD {v : V} {ds : List PyData} (S : Ok F B L H) (h1 : Dp K B v (.tuple ds)) (h2 : SqT K H b []) (k : Q (.bl ds.isEmpty) H) : OpU P w K (compareOp .Eq) v (.ref b) H Q := by
  obtain ⟨a, xs, rfl, hq, ha⟩ := Dp.tup_inv h1
  refine v_eqTNil (S.tqB hq) h2 ?_
  have e : xs.isEmpty = ds.isEmpty := by
    cases ha with
    | nil => rfl
    | cons _ _ => rfl
  rw [e]
  exact k
theorem v_neTNilD {v : V} {ds : List PyData} (S : Ok F B L H) (h1 : Dp K B v (.tuple ds)) (h2 : SqT K H b []) (k : Q (.bl (!ds.isEmpty)) H) : OpU P w K (compareOp .NotEq) v (.ref b) H Q := by
  obtain ⟨a, xs, rfl, hq, ha⟩ := Dp.tup_inv h1
  refine v_neTNil (S.tqB hq) h2 ?_
  have e : xs.isEmpty = ds.isEmpty := by
    cases ha with
    | nil => rfl
    | cons _ _ => rfl
  rw [e]
  exact k
theorem v_slStr {z : Str} {lo hi : Option Int} (hz : z.length ≤ sizeLine) (k : Q (.str (L2.cutS z lo hi)) H) : SlU P w K (.str z) lo hi H Q := .of (fun _ _ => sl_str) ⟨z, rfl, hz, k⟩
theorem v_clearN (n : Nat) (S : Ok F B L H) (h : L[n]? = some (p, .lst xs)) (k : ∀ H', Ok F B (L.set n (p, .lst [])) H' → Q .non H') : MetU P w K "list.clear" (.ref p) [] H Q :=
  .of (fun _ _ => mt_clear) ⟨p, xs, rfl, rfl, (S.own _ (List.mem_of_getElem? h)).1, k _ (S.mutN n h)⟩
end
end WK

namespace WK
open PySem PySem.Spec PyProof.Rows L2
/-! enumerate over a list or a tuple -/
theorem isT_of {h : Heap} {a : Addr} {its : List Value} (p : IsTup h a its.toArray) : h.IsTuple a its.toArray := p
set_option maxHeartbeats 1000000 in
theorem enumNew1 {v : Value} {ob : Obj} {C : Heap → Prop} (Bg : Begins v ob C) :
    Meets (Builtin.«enumerate.__new__» ⟨[.type "enumerate", v], []⟩) (fun _ R sh => C sh.heap ∧ R (.ok (.ret (.ref (sh.heap.push ob).objs.size)))
      { sh with heap := (sh.heap.push ob).push { cls := .type "enumerate", data := .fields #[.none, .bool false, .ref sh.heap.objs.size, rawInt 0, .none, .none] } }) :=
  .of_wp fun pg wd Ar R sh hh => by
    obtain ⟨hp, gs, dr, tks, osx⟩ := sh; obtain ⟨hC, hR⟩ := hh
    have hs1 := sub_enumerate
    have itr : ∀ {A' : Around} {E' : Value → Shared → Prop} {Q' : Value → Shared → Prop}, Q' (.ref hp.objs.size) ⟨hp.push ob, gs, dr, tks, osx⟩ → wpAny (model pg wd) A' (pyIter v) Q' E' ⟨hp, gs, dr, tks, osx⟩ := fun q => Bg.iter pg wd _ _ ⟨hp, gs, dr, tks, osx⟩ _ hC q
    wp_walk using itr
    refine wpAny_stack_any fun stk => wpAny_pure ?_
    split
    · rename_i cc _ _ _ _ _
      cases (cc == Value.type "enumerate") <;> (wp_walk using itr; exact ⟨_, rfl, hR⟩)
    · wp_walk using itr
      exact ⟨_, rfl, hR⟩
theorem callEnum1 {P : Program} {w : World} {A : Around} {E : Value → Shared → Prop} {s : Shared} {v : Value} {ob : Obj} {C : Heap → Prop} {Q : Value → Shared → Prop} (Bg : Begins v ob C) (hC : C s.heap)
    (h : ∀ h', IsEnum h' (s.heap.objs.size + 1) s.heap.objs.size 0 .none → h'.get? s.heap.objs.size = some ob → (∀ b o, s.heap.get? b = some o → h'.get? b = some o) → Q (.ref (s.heap.objs.size + 1)) { s with heap := h' }) :
    wpAny (model P w) A (call (.type "enumerate") [v]) Q E s := by
  have hz : (s.heap.push ob).objs.size = s.heap.objs.size + 1 := Heap.size_push ..
  have he : IsEnum ((s.heap.push ob).push { cls := .type "enumerate", data := .fields #[.none, .bool false, .ref s.heap.objs.size, rawInt 0, .none, .none] }) (s.heap.objs.size + 1) s.heap.objs.size 0 .none := by
    have e1 := Heap.get?_push_size (s.heap.push ob) (o := { cls := .type "enumerate", data := .fields #[.none, .bool false, .ref s.heap.objs.size, rawInt 0, .none, .none] }) rfl
    rw [hz] at e1
    exact e1
  refine callType_new F.called_enumerate (by decide) (F.typeCall_enumerate_1 v) (F.newCall_enumerate_1 v) (fun x => F.args_object_init_2 x v) F.entry_enumerate_new (enumNew1 Bg) ⟨hC, ?_⟩
  show _ ∧ _
  rw [hz]
  exact ⟨⟨_, he, rfl⟩, h _ he (Heap.get?_push_of_some _ (Heap.get?_push_size _ Bg.free)) fun b o x => Heap.get?_push_of_some _ (Heap.get?_push_of_some _ x)⟩
/-- the tuple at a, each item in a new pair -/
def Itet (K : PySem.W.Frag) (a : Addr) : It :=
  ⟨fun i H => ∃ (xs : List V) (x : V), SqT K H a xs ∧ xs[i]? = some x, fun i H v H' => ∃ T x, v = .ref T ∧ H T = none ∧ H' = upd H T (.tup [.int (i : Nat), x]) ∧ ∀ xs, SqT K H a xs → xs[i]? = some x, fun i H => ∃ xs : List V, SqT K H a xs ∧ xs.length ≤ i⟩
theorem turn_enumT {P : Program} {w : World} {K : PySem.W.Frag} {elts : List Expr} {kk : Nat} {tpos : Pos} (a e it : Addr) :
    Turn P w K (.Tuple elts kk tpos) (Itet K a) [e, it] e (fun i h => (∃ old, IsEnum h e it ((i : Nat) : Int) old) ∧ h.IsTupleIter it a i ∧ e ≠ it) where
  mem := by simp
  obj := fun i h st b hb => by
    obtain ⟨⟨od, h1⟩, ⟨ob, h2, h3, h4⟩, _⟩ := st
    rcases (show b = e ∨ b = it by simpa using hb) with z | z
    · rw [z]
      exact ⟨_, h1, fun v q => nomatch q⟩
    · rw [z]
      exact ⟨ob, h2, fun v q => by rw [h4] at q; cases q⟩
  keep := fun i h h' st kp => let ⟨⟨od, h1⟩, h2, h3⟩ := st; ⟨⟨od, kp e (by simp) _ h1⟩, h2.at fun o q => kp it (by simp) o q, h3⟩
  item := by
    intro X hP hw hK hc i pins s σ H E I hf st hg
    subst hP hw hK
    obtain ⟨⟨od, h1⟩, h2, hne⟩ := st
    obtain ⟨xs, x, hq, hx⟩ := hg
    obtain ⟨its, rv, p, hz⟩ := I.tuple hq
    obtain ⟨u0, hu0, ru0⟩ := rv.get hx
    have pT := isT_of p
    have hel : e < s.heap.objs.size := Heap.lt_size h1
    have hil : it < s.heap.objs.size := by obtain ⟨_, q, _⟩ := h2; exact Heap.lt_size q
    have nea : e ≠ a := fun z => by
      obtain ⟨o, q, c, _⟩ := pT
      rw [← z, h1] at q
      cases q
      exact absurd (show Value.type "enumerate" = Value.type "tuple" from c) (by decide)
    have nia : a ≠ it := fun z => by
      obtain ⟨o, q, c, _⟩ := pT
      obtain ⟨o2, q2, c2, _⟩ := h2
      rw [z, q2] at q
      cases q
      rw [c2] at c
      exact absurd c (by decide)
    have hlt : i < its.toArray.size := by
      have := (List.getElem?_eq_some_iff.mp hu0).1
      simpa using this
    refine wpAny_pyNext_enum_itemC (Draws.tuple (A := X.A.in1) (I.ok.hd hc) it a nia its.toArray) h1 ⟨h2, pT⟩ hlt hne (by simp [hne, nea]) fun u h' tk pu ho st' hT hsz hk => ?_
    have eu : u = u0 := by
      have e1 : its.toArray[i]? = some u0 := by simpa using hu0
      rw [e1] at pu
      exact (Option.some.inj pu).symm
    subst eu
    refine ⟨_, rfl, wpAny_letOwnedTupleGo_enum (s := { s with heap := h', toks := tk + 1 }) ho fun hb he' sb => ?_⟩
    have hT2 : hb.get? s.heap.objs.size = some { cls := .type "tuple", data := .seq #[.int i tk, u] } := (sb.2 _ (Nat.ne_of_gt hel)).trans hT
    have nw : ObjOk X.prog X.w (upd H s.heap.objs.size (.tup [.int (i : Nat), x])) hb s.heap.objs.size (.tup [.int (i : Nat), x]) := ⟨by show 2 ≤ sizeLine; decide, [.int i tk, u], .cons ⟨_, rfl⟩ (.cons ru0 .nil), ⟨_, hT2, rfl, _, rfl⟩⟩
    have J1 : Inv X pins σ (upd H s.heap.objs.size (.tup [.int (i : Nat), x])) { s with heap := hb, toks := tk + 1 } :=
      I.turnedNew (ch := [e, it]) (fun b ob hbm q => (sb.2 b (fun z => hbm (by simp [z]))).trans (hk b ob (fun z => hbm (by simp [z])) (fun z => hbm (by simp [z])) q)) hf (Nat.le_refl _) nw
    refine ⟨.ref s.heap.objs.size, _, J1, rfl, ⟨_, x, rfl, I.hok.fresh (Nat.le_refl _), rfl, fun ys hy => by rw [I.tuple_inj hy hq]; exact hx⟩, ⟨⟨u, ?_⟩, st'.1.at fun o q => (sb.2 it (Ne.symm hne)).trans q, hne⟩, fun b hbm => ?_⟩
    · rw [show ((i + 1 : Nat) : Int) = (i : Int) + 1 by omega]
      exact he'
    · have hlt' : b < s.heap.objs.size := by
        rcases (show b = e ∨ b = it by simpa using hbm) with z | z
        · rw [z]; exact hel
        · rw [z]; exact hil
      rw [upd_ne (Nat.ne_of_lt hlt')]
      exact (hf b hbm).1
  done := by
    intro X hP hw hK hc i pins s σ H E I hf st hg
    subst hP hw hK
    obtain ⟨⟨od, h1⟩, h2, hne⟩ := st
    obtain ⟨xs, hq, hx⟩ := hg
    obtain ⟨its, rv, p, hz⟩ := I.tuple hq
    have pT := isT_of p
    obtain ⟨f0, f1, f2, f3, f4, f5⟩ := hf it (by simp)
    have hl := rv.length
    have nia : a ≠ it := fun z => by
      obtain ⟨o, q, c, _⟩ := pT
      obtain ⟨o2, q2, c2, _⟩ := h2
      rw [z, q2] at q
      cases q
      rw [c2] at c
      exact absurd c (by decide)
    have fin : ∀ (s' : Shared) (E' : Value → Shared → Prop) (Q' : Value → Shared → Prop), s'.heap.IsTupleIter it a i → s'.heap.IsTuple a its.toArray → (∀ h' e', Heap.ExtBut it s'.heap h' → (∃ o, h'.get? e' = some o ∧ o.cls = .type "StopIteration") → E' (.ref e') { s' with heap := h' }) →
        wpAny (model X.prog X.w) X.A.in1 (Builtin.SmallTypes.nextOf (.ref it)) Q' E' s' := fun s' E' Q' a1 a2 a3 => wpAny_nextOf_tuple_end (I.ok.hd hc) a1 a2 (by simp; omega) a3
    have D : Draws X.prog X.w X.A.in1 it [it, a] i (fun _ _ => False) (fun j h => j = i ∧ h.IsTupleIter it a i ∧ h.IsTuple a its.toArray) :=
      { live := fun _ _ q => let ⟨o, ho, _⟩ := q.2.1; ⟨o, ho⟩
        frame := fun _ _ _ q kp => ⟨q.1, q.2.1.at fun o y => kp it (by simp) o y, q.2.2.at fun o y => kp a (by simp) o y⟩
        item := fun j s' Q' E' hj q _ => absurd q.1 (Nat.ne_of_lt hj)
        done := fun s' Q' E' q hE => fin s' E' Q' q.2.1 q.2.2 hE }
    exact wpAny_pyNext_enum_endD D h1 ⟨rfl, h2, pT⟩ fun h' eb => ⟨rfl, I.turned (t' := s.toks) (fun b o hb q => eb b o hb q) f0 f1 f3 f4 f5⟩
  self := fun A i s Q E st h => let ⟨⟨_, h1⟩, _⟩ := st; wpAny_pyIter_enum h1 h
def iEnumV (K : PySem.W.Frag) (ta : TA) : TI := fun σ H R => ta σ H fun vs H1 => ∃ a xs, vs = [.ref a] ∧ ((SqL K H1 a xs ∧ R (Ite K a) H1) ∨ (SqT K H1 a xs ∧ R (Itet K a) H1))
theorem pi_enumV {X : Cx} {e : Expr} {ta : TA} {p pos tpos : Pos} {elts : List Expr} {kk : Nat} (hg : Gl X "enumerate") (hm : X.mg "enumerate" = none) (ha : PA X [e] ta) (hs : starEach [e] X.env = [(false, eval e X.env)] := by rfl) :
    PI X (.Tuple elts kk tpos) (.Call (.Name "enumerate" p) [e] [] pos) (iEnumV X.K ta) := by
  refine ⟨fun pins s σ H R I h => ?_⟩
  refine Call_ (ld_blt I hg hm boot_enumerate (PyProof.Rows.callWith_type1 (thn (ha.run pos pins s σ H _ I h) fun us s1 ⟨vs, H1, I1, r1, q1⟩ => ?_) hs rfl))
  obtain ⟨a, xs, rfl, q⟩ := q1
  cases r1 with
  | cons r rr =>
    cases rr
    cases r
    have fpk : ∀ (b : Addr), b ∈ [s1.heap.objs.size + 1, s1.heap.objs.size] → FpOk X pins H1 b := fun b hb => by
      have hle : s1.heap.objs.size ≤ b := by
        rcases (show b = s1.heap.objs.size + 1 ∨ b = s1.heap.objs.size by simpa using hb) with z | z
        · rw [z]; exact Nat.le_add_right _ _
        · rw [z]; exact Nat.le_refl _
      exact I1.fpOk hle (I1.hok.fresh hle)
    rcases q with ⟨hq, q⟩ | ⟨hq, q⟩
    · obtain ⟨its, rv, p', hz⟩ := I1.list hq
      exact call_enumerate_list p'.isList fun h' he hit hsz hk => wpAny_pyIter_enum he ⟨s1.heap.objs.size + 1, _, _, _, H1, rfl, I1.kept (t' := s1.toks) hk, turn_enum a (s1.heap.objs.size + 1) s1.heap.objs.size, ⟨⟨.none, he⟩, hit, Nat.succ_ne_self _⟩, fpk, q⟩
    · obtain ⟨its, rv, p', hz⟩ := I1.tuple hq
      exact callEnum1 (begins_tuple a its.toArray) (isT_of p') fun h' he hit hk => wpAny_pyIter_enum he ⟨s1.heap.objs.size + 1, _, _, _, H1, rfl, I1.kept (t' := s1.toks) hk, turn_enumT a (s1.heap.objs.size + 1) s1.heap.objs.size, ⟨⟨.none, he⟩, ⟨_, hit, rfl, rfl⟩, Nat.succ_ne_self _⟩, fpk, q⟩
def EnvQ (K : PySem.W.Frag) (R : It → Hp → Prop) : List V → Hp → Prop := fun vs H1 => ∃ a xs, vs = [.ref a] ∧ ((SqL K H1 a xs ∧ R (Ite K a) H1) ∨ (SqT K H1 a xs ∧ R (Itet K a) H1))
theorem r_enumV {K : PySem.W.Frag} {σ : L2.St} {H : Hp} {R : It → Hp → Prop} {ta : TA} (k : ta σ H (EnvQ K R)) : iEnumV K ta σ H R := k
section
variable {α : Type} {K : PySem.W.Frag} {a : Addr} {xs : List V}
theorem walk_enumT : Walk (Itet K a) xs.length (fun H => SqT K H a xs) fun i H x H' => ∃ T y, x = .ref T ∧ H T = none ∧ H' = upd H T (.tup [.int (i : Nat), y]) ∧ xs[i]? = some y where
  goes := fun i H hi g => ⟨xs, _, g, List.getElem?_eq_getElem hi⟩
  stops := fun H g => ⟨xs, g, Nat.le_refl _⟩
  yields := fun i H x H' hi g y => by
    obtain ⟨T, z, e1, e2, e3, e4⟩ := y
    exact ⟨T, z, e1, e2, e3, e4 xs g⟩
/-- one's own list that is walked with its places -/
abbrev PrE (K : PySem.W.Frag) (enc : α → PyData) : Hp → V → α × Nat → Prop := fun B x y => ∃ T u, x = .ref T ∧ B T = some (.tup [.int (y.2 : Nat), u]) ∧ Dp K B u (enc y.1)
theorem src_enumT {as : List α} {enc : α → PyData} : Src (Itet K a) (fun B _ => SqT K B a xs ∧ DpAll K B xs (as.map enc)) as.zipIdx (PrE K enc) := by
  by_cases hl : xs.length = as.length
  · refine ⟨_, _, (by rw [List.length_zipIdx]; exact hl ▸ walk_enumT (xs := xs)), fun F B L H S g => S.tqB g.1, fun F B L i H x H' S g y hi => ?_⟩
    obtain ⟨T, y', rfl, n, rfl, e2⟩ := y
    obtain ⟨d, hd, hx⟩ := g.2.get e2
    rw [List.getElem?_map] at hd
    cases e : as[i]? with
    | none => rw [e] at hd; cases hd
    | some z =>
      rw [e] at hd
      cases hd
      exact ⟨(z, i), upd B T (.tup [.int (i : Nat), y']), getElem_zipIdx e, S.exB n, S.newB n, T, y', rfl, upd_same, hx.up (S.exB n)⟩
  · refine ⟨fun _ => False, fun _ _ _ _ => False, ⟨fun _ _ _ h => h.elim, fun _ h => h.elim, fun _ _ _ _ _ h => h.elim⟩, fun F B L H S g => hl ?_, fun F B L i H x H' S g y hi => y.elim⟩
    have := g.2.length
    rw [List.length_map] at this
    exact this
theorem Src.weak {J : It} {GB GB' : Hp → Led → Prop} {as : List α} {R : Hp → V → α → Prop} (s : Src J GB as R) (h : ∀ B L, GB' B L → GB B L) : Src J GB' as R := by
  obtain ⟨G, Y, wk, h1, h2⟩ := s.ex
  exact ⟨G, Y, wk, fun F B L H S g => h1 F B L H S (h B L g), fun F B L i H x H' S g => h2 F B L i H x H' S (h B L g)⟩
/-- data walked with places: a list or a tuple -/
theorem enuD {F : Ent} {B H : Hp} {L : Led} {R : It → Hp → Prop} {as : List α} {enc : α → PyData} {v : V} (S : Ok F B L H) (h : Dp K B v (.list (as.map enc)) ∨ Dp K B v (.tuple (as.map enc)))
    (k : ∀ J, Src J (fun B' _ => Ex B B') as.zipIdx (PrE K enc) → R J H) : EnvQ K R [v] H := by
  rcases h with h | h
  · obtain ⟨a, xs, rfl, hq, ha⟩ := Dp.lst_inv h
    exact ⟨a, xs, rfl, .inl ⟨S.sqB hq, k _ (src_enum.weak fun B' L' (e : Ex B B') => ⟨.inl (e.sqL hq), ha.up e⟩)⟩⟩
  · obtain ⟨a, xs, rfl, hq, ha⟩ := Dp.tup_inv h
    exact ⟨a, xs, rfl, .inr ⟨S.tqB hq, k _ (src_enumT.weak fun B' L' (e : Ex B B') => ⟨e.sqT hq, ha.up e⟩)⟩⟩
end
end WK

namespace WK
open PySem PySem.Spec PyProof.Rows L2
theorem pe_bt {X : Cx} {x : Str} {n : String} {pos : Pos} (hm : X.mg x = none) (hv : bootBuiltins x = some (.type n)) (hg : Gl X x) (hn : x ≠ "__name__" := by decide) (hd : (x == ("__debug__" : Str)) = false := by decide) : PE X (.Name x pos) (tC (.ty n)) :=
  pe_bltn hg hm hv (show RelV (.ty n) (.type n) from rfl) hn hd
/-! isinstance of data -/
def tyD : PyData → String
  | .none => "NoneType"
  | .bool _ => "bool"
  | .int _ => "int"
  | .str _ => "str"
  | .list _ => "list"
  | .tuple _ => "tuple"
  | _ => ""
def isT (a b : String) : Bool := a == b || (a == "bool" && b == "int")
section
variable {P : Program} {w : World} {K : PySem.W.Frag} {F : Ent} {B H : Hp} {L : Led} {Q : VK} {v : V} {d : PyData} {a : Addr} {xs : List V}
theorem tyx_L (h : SqL K H a xs) : TyX K H (.ref a) (.type "list") := by
  rcases h with (h | ⟨o, h⟩) | ⟨o, _, _, e, c, _⟩
  · exact .base (.lst h)
  · exact .base (.frz h)
  · exact .kList e c
theorem tyx_T (h : SqT K H a xs) : TyX K H (.ref a) (.type "tuple") := by
  rcases h with (h | ⟨o, h⟩) | ⟨o, _, _, e, c, _⟩
  · exact .base (.tup h)
  · exact .fTuple h
  · exact .kTuple e c
theorem tyx_D (h : Dp K H v d) : TyX K H v (.type (tyD d)) := by
  cases h with
  | non => exact .base .non
  | bl b => exact .base (.bl b)
  | int i => exact .base (.int i)
  | str x => exact .base (.str x)
  | lst h _ => exact tyx_L h
  | tup h _ => exact tyx_T h
abbrev kTypes : List String := ["list", "tuple", "str", "int", "bool"]
theorem kitB_D (h : Dp K H v d) {T : String} (hT : T ∈ kTypes) : kitB (tyD d) T = some (isT (tyD d) T) := by
  have key : ∀ a ∈ ["NoneType", "bool", "int", "str", "list", "tuple"], ∀ b ∈ kTypes, kitB a b = some (isT a b) := by decide +kernel
  refine key (tyD d) ?_ T hT
  cases h <;> simp [tyD]
theorem v_isiD {T : String} (S : Ok F B L H) (h : Dp K B v d) (hT : T ∈ kTypes) (k : Q (.bl (isT (tyD d) T)) H) : CallU P w K (.builtin "isinstance") [v, .ty T] H Q :=
  .ofK (r := rIsi) (fun _ _ => call_isi) ⟨v, .ty T, .type (tyD d), .type T, _, rfl, .ty T, tyx_D (S.dp h), kit_ty (kitB_D h hT), k⟩
theorem v_isiTL {p : Addr} (S : Ok F B L H) (h : Dp K B v d) (hp : B p = some (.tup [.ty "tuple", .ty "list"])) (k : Q (.bl (isT (tyD d) "tuple" || isT (tyD d) "list")) H) : CallU P w K (.builtin "isinstance") [v, .ref p] H Q := by
  refine .ofK (r := rIsiT) (fun _ _ => call_isiT) ⟨v, p, [.ty "tuple", .ty "list"], .type (tyD d), [.type "tuple", .type "list"], _, rfl, S.stay hp, .cons (.ty _) (.cons (.ty _) .nil), tyx_D (S.dp h), ?_, k⟩
  refine kitAny_cons (kit_ty (kitB_D h (by decide))) (fun e => kitAny_cons (kit_ty (kitB_D h (by decide))) (fun e2 => ?_) (fun e2 => ?_)) (fun e => ?_)
  · rw [e, e2]
    exact kitAny_nil
  · rw [e2, Bool.or_true]
  · rw [e, Bool.true_or]
end
/-- what may be compared place by place -/
def AlOk : Nat → PyData → Prop
  | _, .none => True
  | _, .bool _ => True
  | _, .int _ => True
  | _, .str _ => True
  | n + 1, .list ds => ds.length ≤ 100000 ∧ ∀ d ∈ ds, AlOk n d
  | n + 1, .tuple ds => ds.length ≤ 100000 ∧ ∀ d ∈ ds, AlOk n d
  | _, _ => False
theorem AlOk.lst {n : Nat} {ds : List PyData} (h : ds.length ≤ 100000) (k : ∀ d ∈ ds, AlOk n d) : AlOk (n + 1) (.list ds) := ⟨h, k⟩
theorem AlOk.tup {n : Nat} {ds : List PyData} (h : ds.length ≤ 100000) (k : ∀ d ∈ ds, AlOk n d) : AlOk (n + 1) (.tuple ds) := ⟨h, k⟩
theorem AlOk.int {n : Nat} {i : Int} : AlOk n (.int i) := by cases n <;> exact True.intro
theorem AlOk.str {n : Nat} {z : Str} : AlOk n (.str z) := by cases n <;> exact True.intro
theorem AlOk.bl {n : Nat} {b : Bool} : AlOk n (.bool b) := by cases n <;> exact True.intro
theorem AlOk.non {n : Nat} : AlOk n .none := by cases n <;> exact True.intro
end WK
namespace WK
open PySem PySem.Spec PyProof.Rows L2
/-- data in a list or a tuple -/
def Dpl (K : PySem.W.Frag) (B : Hp) (v : V) (ds : List PyData) : Prop := Dp K B v (.list ds) ∨ Dp K B v (.tuple ds)
theorem Dpl.up {K : PySem.W.Frag} {B B' : Hp} {v : V} {ds : List PyData} (e : Ex B B') (h : Dpl K B v ds) : Dpl K B' v ds := h.elim (fun h => .inl (h.up e)) fun h => .inr (h.up e)
section
variable {α : Type} {F : Ent} {B H : Hp} {L : Led} {σ : L2.St} {K : PySem.W.Frag} {P : Program} {w : World} {tg : Expr} {as : List α} {enc : α → PyData} {v : V} {Q : VK}
theorem forDW {g : TG} {tb : TS} {D : Ends} (S : Ok F B L H) (h : Dpl K B v (as.map enc)) (I : Nat → L2.St → Hp → Led → Prop) (h0 : I 0 σ B L)
    (hs : ∀ i a x σ B0 B1 L H, as[i]? = some a → I i σ B0 L → Ex B B0 → Ex B0 B1 → Ok F B1 L H → Dp K B1 x (enc a) → g x σ H fun σ2 H2 => tb { D with nx := NxE F B (I (i + 1)), ct := NxE F B (I (i + 1)), bk := D.nx } σ2 H2)
    (hd : ∀ σ B1 L H, I as.length σ B1 L → Ex B B1 → Ok F B1 L H → D.nx σ H) : ItU P w K tg v H (ForW g tb D σ) := by
  rcases h with h | h
  · exact forDL S h I h0 hs hd
  · exact forDT S h I h0 hs hd
theorem lcPureW {g : TG} {tt : TT} {te : TE} {vs : List Nat} (S : Ok F B L H) (h : Dpl K B v (as.map enc)) (keep : α → Bool) (f : α → PyData) (hz : as.length ≤ 100000)
    (hs : ∀ a x B1 D acc H1 (C : VK) (Cs : Hp → Prop), a ∈ as → Ex B B1 → Ok F B1 ((D, .lst acc) :: L) H1 → Dp K B1 x (enc a) →
      (∀ y H4 B2, keep a = true → Ex B1 B2 → Ok F B2 ((D, .lst acc) :: L) H4 → Dp K B2 y (f a) → C y H4) → (∀ H3 B2, keep a = false → Ex B1 B2 → Ok F B2 ((D, .lst acc) :: L) H3 → Cs H3) →
      g x (wipe σ vs) H1 fun σ2 H2 => wipe σ2 vs = wipe σ vs ∧ tt σ2 H2 fun b H3 => if b = true then te σ2 H3 C else Cs H3)
    (hd : ∀ D acc B1 H1, Ex B B1 → Ok F B1 ((D, .lst acc) :: L) H1 → DpAll K B1 acc ((as.filter keep).map f) → Q (.ref D) H1) : ItU P w K tg v H (LcW g tt te vs σ Q) := by
  rcases h with h | h
  · exact lcPureL S h keep f hz hs hd
  · exact lcPureT S h keep f hz hs hd
theorem v_lenDW {ds : List PyData} (S : Ok F B L H) (h : Dpl K B v ds) (k : Q (.int ds.length) H) : CallU P w K (.builtin "len") [v] H Q := by
  rcases h with h | h
  · exact v_lenDL S h k
  · exact v_lenDT S h k
theorem v_ixDW {ds : List PyData} {d : PyData} {i : Int} {j : Nat} (S : Ok F B L H) (h : Dpl K B v ds) (hi : i = (j : Int)) (hj : ds[j]? = some d) (k : ∀ u, Dp K B u d → Q u H) : IxU P w K v (.int i) H Q := by
  rcases h with h | h
  · exact v_ixDL S h hi hj k
  · exact v_ixDT S h hi hj k
end
end WK
namespace WK
open PySem PySem.Spec PyProof.Rows L2
section
variable {P : Program} {w : World} {K : PySem.W.Frag} {H : Hp} {Q : VK} {v : V}
theorem v_eqNon (k : Q (.bl true) H) : OpU P w K (compareOp .Eq) .non .non H Q := .of (fun _ _ => op_eq) ⟨rfl, by simpa using k⟩
theorem v_isN (k : Q (.bl (decide (v = .non))) H) : OpU P w K (compareOp .Is) v .non H Q := .of (fun _ _ => op_isN) ⟨rfl, k⟩
theorem v_notN (k : Q (.bl (!decide (v = .non))) H) : OpU P w K (compareOp .IsNot) v .non H Q := .of (fun _ _ => op_notN) ⟨rfl, k⟩
end
end WK
namespace WK
open PySem L2
theorem isSeqT {d : PyData} {ds : List PyData} (h : d = .list ds ∨ d = .tuple ds) : (isT (tyD d) "tuple" || isT (tyD d) "list") = true := by
  rcases h with rfl | rfl
  · show (isT "list" "tuple" || isT "list" "list") = true
    decide
  · show (isT "tuple" "tuple" || isT "tuple" "list") = true
    decide
theorem isSeqF {K : PySem.W.Frag} {B : Hp} {v : V} {d : PyData} (hv : Dp K B v d) (h : ¬ ∃ ds, d = .list ds ∨ d = .tuple ds) : (isT (tyD d) "tuple" || isT (tyD d) "list") = false := by
  cases hv with
  | non => show (isT "NoneType" "tuple" || isT "NoneType" "list") = false; decide
  | bl b => show (isT "bool" "tuple" || isT "bool" "list") = false; decide
  | int i => show (isT "int" "tuple" || isT "int" "list") = false; decide
  | str x => show (isT "str" "tuple" || isT "str" "list") = false; decide
  | lst h1 h2 => exact absurd ⟨_, .inl rfl⟩ h
  | tup h1 h2 => exact absurd ⟨_, .inr rfl⟩ h
theorem isT_ii : isT "int" "int" = true := by decide
theorem isT_bi : isT "bool" "int" = true := by decide
theorem isT_is : isT "int" "str" = false := by decide
theorem isT_bs : isT "bool" "str" = false := by decide
theorem isT_ss : isT "str" "str" = true := by decide
theorem isT_ns : isT "NoneType" "str" = false := by decide
end WK

/-! set(a list of ints and texts) -/
namespace WK
open PySem PySem.Spec PyProof.Rows L2
/-- the keys seen among the first i, and how many unlike ones -/
def seen (ks : Nat → Key) (i : Nat) (k : Key) : Bool := (List.range i).any fun j => decide (ks j = k)
def unlike (ks : Nat → Key) : Nat → Nat
  | 0 => 0
  | i + 1 => if seen ks i (ks i) = true then unlike ks i else unlike ks i + 1
theorem seen_succ (ks : Nat → Key) (i : Nat) (k : Key) : seen ks (i + 1) k = (seen ks i k || decide (k = ks i)) := by
  unfold seen
  rw [List.range_succ, List.any_append]
  simp only [List.any_cons, List.any_nil, Bool.or_false]
  congr 1
  by_cases h : ks i = k
  · rw [decide_eq_true h, decide_eq_true h.symm]
  · rw [decide_eq_false h, decide_eq_false fun z => h z.symm]
theorem unlike_le (ks : Nat → Key) : ∀ i, unlike ks i ≤ i
  | 0 => Nat.le_refl _
  | i + 1 => by
    have := unlike_le ks i
    unfold unlike
    split <;> omega
section
variable {prog : Program} {w : World} {A : Around} {R : Result → Shared → Prop} {I : Addr} {fp wr : List Addr} {G : Array GenState → Array GenState → Prop} {n : Nat} {P : Nat → Value → Prop} {St : Nat → Shared → Prop}
theorem set_fill (W : WalksS prog w A.in1 I fp wr G n P St) (D : Addr) (hD : D ∉ fp) (ks : Nat → Key) (hks : ∀ i v, P i v → RelV (kV (ks i)) v) (hb : n + 1 < scanBound) :
    ∀ (left i : Nat) (s : Shared), n - i = left → i ≤ n → St i s → s.heap.SetOf (mixKind prog w) D (seen ks i) (unlike ks i) →
      (∀ s', Moved (D :: wr) G s s' → s'.heap.SetOf (mixKind prog w) D (seen ks n) (unlike ks n) → R (.ok (.ret .none)) s') → codeAny (model prog w) A (.builtin "set.update.loop" ⟨[.ref D, .ref I], []⟩) R s := by
  have out : D ∉ wr := fun h => hD (W.sub _ h)
  have more : ∀ b ∈ wr, b ∈ D :: wr := fun b hb => List.mem_cons_of_mem _ hb
  have stays : ∀ {s s' : Shared} {S : Key → Bool} {c : Nat}, Moved wr G s s' → s.heap.SetOf (mixKind prog w) D S c → s'.heap.SetOf (mixKind prog w) D S c := fun hm hS => setOf_at hS fun o ho => hm.heap D o out ho
  intro left
  induction left with
  | zero =>
    intro i s hk hi hst hS fin
    obtain rfl : i = n := by omega
    refine codeAny_builtin PyProof.Rows.F.entry_set_update_loop ?_
    rw [Around.under_plainId PyProof.Rows.F.plain_set_update_loop _]
    show wpAny _ A.in1 (pyNext (.ref I) >>= _) _ _ s
    exact wpAny_bind (W.done s _ _ hst fun s' hm => wpAny_pure (fin s' (hm.mono more) (stays hm hS)))
  | succ left ih =>
    intro i s hk hi hst hS fin
    have hlt : i < n := by omega
    refine codeAny_builtin PyProof.Rows.F.entry_set_update_loop ?_
    rw [Around.under_plainId PyProof.Rows.F.plain_set_update_loop _]
    show wpAny _ A.in1 (pyNext (.ref I) >>= _) _ _ s
    refine wpAny_bind (W.item i s _ _ hlt hst fun v s1 hv hst1 hm => ?_)
    have rv := hks i v hv
    show wpAny _ A.in1 (holding [v] (setAdd D v) >>= _) _ _ s1
    refine wpAny_bind (wpAny_holding ?_)
    unfold setAdd
    refine wpAny_holding (wpAny_bind ((mixKind prog w).pyHash (k := ks i) (kV_is rv) ?_))
    have hS1 := stays hm hS
    have room : unlike ks i + 1 < scanBound := by have := unlike_le ks i; omega
    refine wpAny_setAddHashed_of (knd := mixKind prog w) (s := { s1 with toks := s1.toks + 1 }) (kV_is rv) (key_scan rv) hS1 room fun h' sb new => ?_
    have new1 : h'.SetOf (mixKind prog w) D (seen ks (i + 1)) (unlike ks (i + 1)) := by
      have e1 : (fun k => seen ks i k || decide (k = ks i)) = seen ks (i + 1) := funext fun k => (seen_succ ks i k).symm
      have e2 : unlike ks (i + 1) = if seen ks i (ks i) = true then unlike ks i else unlike ks i + 1 := rfl
      rw [e1] at new
      rw [e2]
      exact new
    refine wpAny_pure ⟨plainId_quiet PyProof.Rows.F.plain_set_update_loop _, ih (i + 1) _ (by omega) hlt (W.frame _ s1 _ _ hst1 (Nat.le_succ _) fun b hb o e => ?_) new1 fun s2 hm2 hS2 => ?_⟩
    · rw [sb.2 b fun z => hD (z ▸ hb)]
      exact e
    · refine fin s2 (Moved.trans W.gtrans ((hm.mono more).then_heap (Nat.le_succ _) fun b o hb e => ?_) hm2) hS2
      rw [sb.2 b fun z => hb (by rw [z]; exact List.mem_cons_self)]
      exact e
end
section
variable {prog : Program} {w : World} {A : Around} {E : Value → Shared → Prop} {s : Shared}
set_option maxHeartbeats 4000000 in
theorem set_init_of {M : Model} {A : Around} {E : Value → Shared → Prop} {s : Shared} {Q : Fin → Shared → Prop} {D l : Addr} {dict : Option Addr} {slots : Array (Option Value)} {od : Data} {led : Bool}
    (at0 : s.heap.get? D = some { cls := .type "set", dict := none, data := .set #[] 0 (.fresh 0 0 led) }) (hol : s.heap.get? l = some { cls := .type "list", dict := dict, data := od, slots := slots })
    (k : wpAny M A (pyIter (.ref l)) (fun a s' => wpAny M A (runValue (Code.builtin "set.update.loop" ⟨[.ref D, a], []⟩)) (fun _ s' => Q (.done (.ret .none)) s') E s') E s) :
    wpAny M A (Builtin.«set.__init__» ⟨[.ref D, .ref l], []⟩) Q E s := by
  have f8 := PySem.F.sub_list_set
  have f9 := PySem.F.sub_list_frozenset
  have ne : (Value.type "list" == Value.type "dict") = false := by decide
  unfold Builtin.«set.__init__» noKeywords Builtin.Frozenset.updateFrom
  generalize hPI : pyIter = PI at k
  wp_walk
  refine wpAny_mono k (fun a s' h => ?_) fun _ _ h => h
  exact wpAny_bind (wpAny_mono h (fun _ s2 h2 => wpAny_pure (wpAny_pure h2)) fun _ _ h => h)
set_option maxHeartbeats 4000000 in
theorem set_of_list {l : Addr} {items : Array Value} {ks : Nat → Key} {Q : Value → Shared → Prop} (hh : A.handled = none) (hl : s.heap.IsList l items) (hi : ∀ (i : Nat) (v : Value), items[i]? = some v → RelV (kV (ks i)) v) (hb : items.size + 1 < scanBound)
    (fin : ∀ (h' : Heap) (tk : Nat), h'.SetOf (mixKind prog w) s.heap.objs.size (seen ks items.size) (unlike ks items.size) → (∀ b o, b < s.heap.objs.size → s.heap.get? b = some o → h'.get? b = some o) → Q (.ref s.heap.objs.size) { s with heap := h', toks := tk }) :
    wpAny (model prog w) A (call (.type "set") [.ref l]) Q E s := by
  obtain ⟨c, tl, hmro⟩ := PySem.F.called_set.mro
  have f1 := PySem.F.called_set.made
  have f2 := PySem.F.called_set.sub
  refine wpAny_call (codeAny_of_tree ?_)
  show wpAny _ _ (callAny (.type "set") _) _ _ _
  refine wpAny_pure ⟨Code.quiet_builtin _ (by decide +kernel), codeAny_builtin PySem.F.entry_type_call ?_⟩
  rw [Around.under_plain (weight_type_call_type "set" [.ref l] []) rfl]
  have f3 := PySem.F.called_set.notType
  have f4 := PySem.F.called_set.canCreate
  have f5 := PySem.F.typeCall_set_1 (.ref l)
  repeat (any_goals (first | assumption | wp_step))
  refine codeAny_mono (code_set_new_1 (.ref l) (E := E) (Q₁ := fun obj s1 => ∃ led : Bool, obj = .ref s.heap.objs.size ∧ s1 = { s with heap := s.heap.push { cls := .type "set", dict := none, data := .set #[] 0 (.fresh 0 0 led) } }) fun led => ⟨led, rfl, rfl⟩) fun r s1 hr => ?_
  cases r with
  | error e => exact hr
  | ok fl =>
    cases fl with
    | ret obj =>
      obtain ⟨led, rfl, rfl⟩ := hr
      generalize hg : s.heap.push { cls := .type "set", dict := none, data := .set #[] 0 (.fresh 0 0 led) } = g
      have at0 : g.get? s.heap.objs.size = some { cls := .type "set", dict := none, data := .set #[] 0 (.fresh 0 0 led) } := by rw [← hg]; exact Heap.get?_push_size _ rfl
      have kept : ∀ {b : Addr} {o : Obj}, s.heap.get? b = some o → g.get? b = some o := fun e => by rw [← hg]; exact Heap.get?_push_of_some _ e
      have gsz : g.objs.size = s.heap.objs.size + 1 := by rw [← hg]; exact Heap.size_push ..
      have ty : Shared.TypeIs { s with heap := g } (.ref s.heap.objs.size) "set" := ⟨_, at0, rfl⟩
      have f6 := PySem.F.called_set.init.lookup
      have f7 := PySem.F.called_set.init.bind (.ref s.heap.objs.size)
      repeat (any_goals (first | assumption | wp_step))
      refine codeAny_mono (codeAny_call_builtin (R := wants (fun r s2 => r = .none ∧ ∃ h' tk, s2 = { s with heap := h', toks := tk } ∧ h'.SetOf (mixKind prog w) s.heap.objs.size (seen ks items.size) (unlike ks items.size) ∧
          (∀ b o, b < s.heap.objs.size → s.heap.get? b = some o → h'.get? b = some o)) E) PySem.F.called_set.init.plain PySem.F.entry_set_init (check_set_init_1 ty ?_)) fun r2 s2 hr2 => ?_
      · obtain ⟨ol, hol, hcl, nl, hdl⟩ := hl
        obtain ⟨ocls, odict, odata, oslots⟩ := ol
        simp only at hcl hdl
        subst hcl; subst hdl
        have hol1 := kept hol
        have hl1 : g.IsList l items := ⟨_, hol1, rfl, nl, rfl⟩
        refine set_init_of at0 hol1 (wpAny_pyIter_list hl1 (wpAny_runValue ?_))
        have lts : l < s.heap.objs.size := Heap.lt_size hol
        have hh3 : A.in1.in1.in1.handled = none := by simp [hh]
        have neI : l ≠ g.objs.size := by rw [gsz]; exact Nat.ne_of_lt (Nat.lt_succ_of_lt lts)
        have outs : s.heap.objs.size ∉ [g.objs.size, l] := by
          rw [gsz]
          simp only [List.mem_cons, List.not_mem_nil, or_false, not_or]
          exact ⟨Nat.ne_of_lt (Nat.lt_succ_self _), Nat.ne_of_gt lts⟩
        refine set_fill ((Walks.list hh3 _ l neI items).toS) s.heap.objs.size outs ks hi hb (items.size - 0) 0 _ (by omega) (Nat.zero_le _) ⟨⟨_, Heap.get?_push_size _ rfl, rfl, rfl⟩, (hl1.push _)⟩ ?start ?done
        case start =>
          have at1 : (g.push { cls := .type "list_iterator", data := .fields #[.ref l, .int 0 0] }).get? s.heap.objs.size = some { cls := .type "set", dict := none, data := .set #[] 0 (.fresh 0 0 led) } := Heap.get?_push_of_some _ at0
          exact ⟨_, #[], 0, _, at1, ⟨rfl, rfl, rfl⟩, rfl, fun e he => by simp at he, fun k => ⟨fun z => by simp [seen] at z, fun ⟨e, he, _⟩ => by simp at he⟩, by decide, by rfl, rfl⟩
        case done =>
          intro s' hm hS
          obtain ⟨h', g', d', tk', os'⟩ := s'
          obtain rfl : g' = s.gens := hm.gens
          obtain rfl : d' = s.drawn := hm.drawn
          obtain rfl : os' = s.os := hm.os
          refine ⟨rfl, h', tk', rfl, hS, fun b o hb e => ?_⟩
          refine hm.heap b o ?_ (Heap.get?_push_of_some _ (kept e))
          simp only [List.mem_cons, List.not_mem_nil, or_false, not_or]
          exact ⟨Nat.ne_of_lt hb, by rw [gsz]; exact Nat.ne_of_lt (Nat.lt_succ_of_lt hb)⟩
      · cases r2 with
        | error e => exact hr2
        | ok fl2 =>
          cases fl2 with
          | ret r =>
            obtain ⟨rfl, h', tk, rfl, hS', hk'⟩ := hr2
            repeat (any_goals (first | assumption | wp_step))
            exact fin _ _ hS' hk'
          | _ => exact hr2.elim
    | _ => exact hr.elim
end
section
variable {P : Program} {w : World} {K : PySem.W.Frag} {H B : Hp} {Q : VK} {F : Ent} {L : Led} {a : Addr}
/-- set(xs), xs a list of ints and texts -/
theorem v_setOf {xs : List Key} (S : Ok F B L H) (h : SqL K H a (xs.map kV)) (hz : xs.length < 4000)
    (k : ∀ p H', Ok F B ((p, SetK P w p (seen (fun i => xs.getD i (.inl 0)) xs.length) (unlike (fun i => xs.getD i (.inl 0)) xs.length)) :: L) H' → Q (.ref p) H') : CallU P w K (.type "set") [.ref a] H Q := by
  intro X pins s σ us al I r
  obtain ⟨rfl, rfl, rfl, hc, hu⟩ := al
  obtain ⟨u, rfl, ru⟩ := vals1 r
  obtain rfl : u = Value.ref a := ru
  obtain ⟨its, rv, pl, _⟩ := I.list h
  have hlen : its.toArray.size = xs.length := by rw [List.size_toArray, ← rv.length, List.length_map]
  refine set_of_list (I.ok.hd hc) pl.isList (ks := fun i => xs.getD i (.inl 0)) (fun i v e => ?_) (by rw [hlen]; unfold scanBound; omega) fun h' tk new kp => ?_
  · have e' : its[i]? = some v := by simpa using e
    have hi : i < xs.length := by
      have := (List.getElem?_eq_some_iff.mp e').1
      have := rv.length
      rw [List.length_map] at this
      omega
    obtain ⟨v', hv', r'⟩ := rv.get (i := i) (x := kV (xs[i])) (by rw [List.getElem?_map, List.getElem?_eq_getElem hi]; rfl)
    rw [e'] at hv'
    cases hv'
    show RelV (kV (xs.getD i (.inl 0))) v
    rw [List.getD_eq_getElem?_getD, List.getElem?_eq_getElem hi]
    exact r'
  · rw [hlen] at new
    have hn : H s.heap.objs.size = none := I.hok.fresh (Nat.le_refl _)
    refine ⟨.ref s.heap.objs.size, upd H s.heap.objs.size (SetK X.prog X.w s.heap.objs.size _ _), I.laid (a := s.heap.objs.size) (o := SetK X.prog X.w s.heap.objs.size _ _) (h' := h') (t' := tk) (fun b o e => kp b o (Heap.lt_size e) e) (Nat.le_refl _) (setK_new new), rfl, k _ _ (S.newL hn)⟩
theorem v_lenSet {p : Addr} {T : Key → Bool} {n : Nat} (h : H p = some (SetK P w p T n)) (hz : n < 2 ^ 62) (k : Q (.int n) H) : CallU P w K (.builtin "len") [.ref p] H Q := by
  intro X pins s σ us al I r
  obtain ⟨rfl, rfl, rfl, hc, hu⟩ := al
  obtain ⟨u, rfl, ru⟩ := vals1 r
  obtain rfl : u = Value.ref p := ru
  obtain ⟨o, es, ep, t, ho, hex, hd, _, _, _, hf, hn⟩ := setK_get I h
  exact call_len_set ho hex hd hf (by rw [hn]; omega) ⟨.int n, H, I.tok _, ⟨_, by rw [hn]⟩, k⟩
end
/-- all unlike: as many as there are -/
theorem unlike_nodup {xs : List Key} (h : xs.Nodup) : ∀ i, i ≤ xs.length → unlike (fun i => xs.getD i (.inl 0)) i = i
  | 0, _ => rfl
  | i + 1, hi => by
    have ih := unlike_nodup h i (by omega)
    have no : seen (fun i => xs.getD i (.inl 0)) i (xs.getD i (.inl 0)) = false := by
      unfold seen
      rw [List.any_eq_false]
      intro j hj
      rw [List.mem_range] at hj
      simp only [decide_eq_true_eq]
      have hj' : j < xs.length := by omega
      have hi' : i < xs.length := by omega
      rw [List.getD_eq_getElem?_getD, List.getD_eq_getElem?_getD, List.getElem?_eq_getElem hj', List.getElem?_eq_getElem hi']
      exact (List.pairwise_iff_getElem.mp h) j i hj' hi' hj
    show (if seen _ i _ = true then _ else _) = _
    rw [no, if_neg Bool.false_ne_true, ih]
end WK
namespace WK
open PySem PySem.Spec PyProof.Rows L2
section
variable {P : Program} {w : World} {F : Ent} {B H : Hp} {L : Led} {K : PySem.W.Frag} {Q : VK} {v : V}
theorem v_setOfD {ss : List Str} (S : Ok F B L H) (h : Dp K B v (.list (ss.map PyData.str))) (hz : ss.length < 4000)
    (k : ∀ p H', Ok F B ((p, SetK P w p (seen (fun i => (ss.map fun s => (Sum.inr s : Key)).getD i (.inl 0)) ss.length) (unlike (fun i => (ss.map fun s => (Sum.inr s : Key)).getD i (.inl 0)) ss.length)) :: L) H' → Q (.ref p) H') : CallU P w K (.type "set") [v] H Q := by
  obtain ⟨a, xs, rfl, hq, ha⟩ := Dp.lst_inv h
  rw [ha.strs] at hq
  have e : ss.map V.str = (ss.map fun s => (Sum.inr s : Key)).map kV := by rw [List.map_map]; rfl
  rw [e] at hq
  have := v_setOf (P := P) (w := w) (Q := Q) S (S.sqB hq) (by rw [List.length_map]; exact hz)
  rw [List.length_map] at this
  exact this k
theorem nodup_inr {ss : List Str} (h : ss.Nodup) : (ss.map fun s => (Sum.inr s : Key)).Nodup := by
  rw [List.nodup_iff_pairwise_ne] at h ⊢
  rw [List.pairwise_map]
  exact h.imp fun hab e => hab (Sum.inr.inj e)
/-- len(set(texts)), texts unlike one another -/
theorem unlike_strs {ss : List Str} (h : ss.Nodup) : unlike (fun i => (ss.map fun s => (Sum.inr s : Key)).getD i (.inl 0)) ss.length = ss.length := by
  have := unlike_nodup (nodup_inr h) ss.length (by rw [List.length_map]; exact Nat.le_refl _)
  exact this
end
end WK

/-! a book of parts as data -/
namespace PM
open PySem L2
abbrev letters : Str := "abcdefghijklmnopqrstuvwxyz"
def isNameM (z : Str) : Bool := decide (1 ≤ (z.length : Int)) && (decide ((z.length : Int) ≤ 8) && (z.cps.toList.map fun c => decide (c ∈ letters.cps.toList)).all id)
structure PRow where
  name : Str
  needs : List (Str × Int)
  steps : List (Int × Int)
  lot : Int
  lead : Int
abbrev encNeed (x : Str × Int) : PyData := .tuple [.str x.1, .int x.2]
abbrev encStep (x : Int × Int) : PyData := .tuple [.int x.1, .int x.2]
abbrev encRow (r : PRow) : PyData := .tuple [.str r.name, .tuple (r.needs.map encNeed), .tuple (r.steps.map encStep), .int r.lot, .int r.lead]
abbrev encRest (r : PRow) : PyData := .tuple [.tuple (r.needs.map encNeed), .tuple (r.steps.map encStep), .int r.lot, .int r.lead]
/-- a row that may stand behind the names -/
structure GoodRow (names : List Str) (r : PRow) : Prop where
  nm : isNameM r.name = true
  new : r.name ∉ names
  lot : 1 ≤ r.lot ∧ r.lot ≤ 99
  lead : 0 ≤ r.lead ∧ r.lead ≤ 30
  nd : (r.needs.map (·.1)).Nodup
  known : ∀ x ∈ r.needs, x.1 ∈ names
  many : ∀ x ∈ r.needs, 1 ≤ x.2 ∧ x.2 ≤ 9
  few : r.steps.length ≤ 5
  steps : ∀ x ∈ r.steps, (0 ≤ x.1 ∧ x.1 < 6) ∧ 1 ≤ x.2 ∧ x.2 ≤ 99

theorem nodup_sub_length {α : Type} [DecidableEq α] {l l' : List α} (h : l.Nodup) (hs : ∀ x ∈ l, x ∈ l') : l.length ≤ l'.length := by
  induction l generalizing l' with
  | nil => exact Nat.zero_le _
  | cons a l ih =>
    have hn := List.nodup_cons.mp h
    have ha := hs a (List.mem_cons_self ..)
    have := ih hn.2 (l' := l'.erase a) fun x hx => (List.mem_erase_of_ne (fun e : x = a => hn.1 (by rw [← e]; exact hx))).mpr (hs x (List.mem_cons_of_mem _ hx))
    rw [List.length_erase_of_mem ha] at this
    have : 0 < l'.length := List.length_pos_of_mem ha
    simp only [List.length_cons]
    omega
/-! dicts with texts as keys -/
def getA {α : Type} (l : List (Str × α)) (s : Str) : Option α := (l.find? fun p => decide (p.1 = s)).map (·.2)
def putA {α : Type} (l : List (Str × α)) (s : Str) (v : α) : List (Str × α) := if (l.any fun p => decide (p.1 = s)) = true then l.map (fun p => if p.1 = s then (p.1, v) else p) else l ++ [(s, v)]
abbrev kvI (l : List (Str × Int)) : List (Key × V) := l.map fun p => (.inr p.1, .int p.2)
theorem valV_kvI (l : List (Str × Int)) (s : Str) : valV (kvI l) (.inr s) = (getA l s).map V.int := by
  unfold valV getA kvI
  induction l with
  | nil => rfl
  | cons p l ih =>
    rw [List.map_cons, List.find?_cons, List.find?_cons]
    by_cases h : p.1 = s
    · subst h
      simp
    · have h1 : decide (p.1 = s) = false := decide_eq_false h
      have h2 : decide ((Sum.inr p.1 : Key) = .inr s) = false := decide_eq_false fun z => h (Sum.inr.inj z)
      simp only [h1, h2]
      exact ih
theorem any_kvI (l : List (Str × Int)) (s : Str) : ((kvI l).any fun kv => decide (kv.1 = .inr s)) = (l.any fun p => decide (p.1 = s)) := by
  unfold kvI
  rw [List.any_map]
  congr 1
  funext p
  by_cases h : p.1 = s
  · subst h; simp
  · show decide ((Sum.inr p.1 : Key) = .inr s) = decide (p.1 = s)
    rw [decide_eq_false h, decide_eq_false fun z => h (Sum.inr.inj z)]
theorem putK_kvI (l : List (Str × Int)) (s : Str) (i : Int) : putK (kvI l) (.inr s) (.int i) = kvI (putA l s i) := by
  unfold putK putA
  rw [any_kvI]
  split
  · unfold kvI
    rw [List.map_map, List.map_map]
    refine List.map_congr_left fun p _ => ?_
    show (if (Sum.inr p.1 : Key) = .inr s then _ else _) = _
    by_cases h : p.1 = s
    · subst h; simp
    · rw [if_neg fun z => h (Sum.inr.inj z)]
      show _ = (Sum.inr (if p.1 = s then (p.1, i) else p).1, V.int (if p.1 = s then (p.1, i) else p).2)
      rw [if_neg h]
  · unfold kvI
    rw [List.map_append]
    rfl
theorem getA_isSome {α : Type} (l : List (Str × α)) (s : Str) : (getA l s).isSome = true ↔ s ∈ l.map (·.1) := by
  unfold getA
  rw [Option.isSome_map, List.find?_isSome]
  simp only [decide_eq_true_eq, List.mem_map]
theorem putA_keys {α : Type} (l : List (Str × α)) (s : Str) (v : α) (h : s ∈ l.map (·.1)) : (putA l s v).map (·.1) = l.map (·.1) := by
  unfold putA
  rw [if_pos]
  · rw [List.map_map]
    refine List.map_congr_left fun p _ => ?_
    show (if p.1 = s then (p.1, v) else p).1 = p.1
    split <;> rfl
  · rw [List.any_eq_true]
    obtain ⟨p, hp, e⟩ := List.mem_map.mp h
    exact ⟨p, hp, decide_eq_true e⟩
theorem putA_new {α : Type} (l : List (Str × α)) (s : Str) (v : α) (h : s ∉ l.map (·.1)) : putA l s v = l ++ [(s, v)] := by
  unfold putA
  rw [if_neg]
  intro z
  rw [List.any_eq_true] at z
  obtain ⟨p, hp, e⟩ := z
  exact h (List.mem_map.mpr ⟨p, hp, of_decide_eq_true e⟩)
theorem putA_length {α : Type} (l : List (Str × α)) (s : Str) (v : α) (h : s ∈ l.map (·.1)) : (putA l s v).length = l.length := by
  have := congrArg List.length (putA_keys l s v h)
  simpa using this
def addA (l : List (Str × Int)) (s : Str) (i : Int) : List (Str × Int) := putA l s ((getA l s).getD 0 + i)
/-- what some needs lead to, by what those ahead lead to -/
def addAll (m : Int) (f : List (Str × Int)) (more : List (Str × Int)) : List (Str × Int) := more.foldl (fun f p => addA f p.1 (m * p.2)) f
def needStep (ls : List (Str × List (Str × Int))) (f : List (Str × Int)) (p : Str × Int) : List (Str × Int) := addAll p.2 (addA f p.1 p.2) ((getA ls p.1).getD [])
def ledRaw (names : List Str) (ls : List (Str × List (Str × Int))) (needs : List (Str × Int)) : List (Str × Int) := needs.foldl (needStep ls) (names.map fun s => (s, 0))
def ledTo (names : List Str) (ls : List (Str × List (Str × Int))) (needs : List (Str × Int)) : List (Str × Int) := (ledRaw names ls needs).filter fun p => decide (0 < p.2)
/-- what each part of a book leads to -/
def ledStep (ls : List (Str × List (Str × Int))) (r : PRow) : List (Str × List (Str × Int)) := ls ++ [(r.name, ledTo (ls.map (·.1) ++ [r.name]) ls r.needs)]
def ledOf (rs : List PRow) : List (Str × List (Str × Int)) := rs.foldl ledStep []
theorem ledOf_snoc (rs : List PRow) (r : PRow) : ledOf (rs ++ [r]) = ledStep (ledOf rs) r := by
  unfold ledOf
  rw [List.foldl_append]
  rfl
theorem ledOf_names (rs : List PRow) : (ledOf rs).map (·.1) = rs.map (·.name) := by
  suffices h : ∀ (rs : List PRow) (ls : List (Str × List (Str × Int))), (rs.foldl ledStep ls).map (·.1) = ls.map (·.1) ++ rs.map (·.name) from h rs []
  intro rs
  induction rs with
  | nil => intro ls; simp
  | cons r rs ih =>
    intro ls
    rw [List.foldl_cons, ih]
    simp [ledStep]
/-- a book that can be -/
structure GoodBook (rs : List PRow) : Prop where
  len : rs.length ≤ 12
  row : ∀ i r, rs[i]? = some r → GoodRow ((rs.take i).map (·.name)) r
  led : ∀ p ∈ ledOf rs, (p.2.map (·.2)).sum ≤ 200
end PM

/-! books of parts in the heap -/
namespace PM
open PySem PySem.Spec PyProof.Rows L2 WK
section
variable {K : PySem.W.Frag} {σ : L2.St} {H B : Hp} {F : Ent} {L : Led} {gs : TGs} {v : V} {QG : L2.St → Hp → Prop}
theorem r_gtupRow {r : PRow} (S : Ok F B L H) (h : Dp K B v (encRow r)) (k : ∀ v2 v3, Dp K B v2 (.tuple (r.needs.map encNeed)) → Dp K B v3 (.tuple (r.steps.map encStep)) → gs [.str r.name, v2, v3, .int r.lot, .int r.lead] σ H QG) : gTup K 5 gs v σ H QG :=
  r_gtupD S h rfl fun vs ha => by
    obtain ⟨v1, _, rfl, h1, ha⟩ := ha.cons_inv
    obtain ⟨v2, _, rfl, h2, ha⟩ := ha.cons_inv
    obtain ⟨v3, _, rfl, h3, ha⟩ := ha.cons_inv
    obtain ⟨v4, _, rfl, h4, ha⟩ := ha.cons_inv
    obtain ⟨v5, _, rfl, h5, ha⟩ := ha.cons_inv
    obtain rfl := ha.nil_inv
    obtain rfl := h1.str_inv
    obtain rfl := h4.int_inv
    obtain rfl := h5.int_inv
    exact k v2 v3 h2 h3
end
/-- what the parts lead to: frozen dicts -/
inductive LedKV (B : Hp) : List (Key × V) → List (Str × List (Str × Int)) → Prop
  | nil : LedKV B [] []
  | cons {s d od m kvs ls} : B d = some (.frz od (.dK (kvI m))) → LedKV B kvs ls → LedKV B ((.inr s, .ref d) :: kvs) ((s, m) :: ls)
inductive RowKV (K : PySem.W.Frag) (B : Hp) : List (Key × V) → List PRow → Prop
  | nil : RowKV K B [] []
  | cons {v r kvs rs} : Dp K B v (encRest r) → RowKV K B kvs rs → RowKV K B ((.inr r.name, v) :: kvs) (r :: rs)
section
variable {K : PySem.W.Frag} {B B' : Hp} {kvs : List (Key × V)} {ls : List (Str × List (Str × Int))} {rs : List PRow}
theorem LedKV.up (e : Ex B B') (h : LedKV B kvs ls) : LedKV B' kvs ls := by
  induction h with
  | nil => exact .nil
  | cons h _ ih => exact .cons (e _ _ h) ih
theorem RowKV.up (e : Ex B B') (h : RowKV K B kvs rs) : RowKV K B' kvs rs := by
  induction h with
  | nil => exact .nil
  | cons h _ ih => exact .cons (h.up e) ih
theorem LedKV.keys (h : LedKV B kvs ls) : kvs.map (·.1) = ls.map fun p => .inr p.1 := by
  induction h with
  | nil => rfl
  | cons _ _ ih => simp [ih]
theorem RowKV.keys (h : RowKV K B kvs rs) : kvs.map (·.1) = (rs.map (·.name)).map Sum.inr := by
  induction h with
  | nil => rfl
  | cons _ _ ih => simp only [List.map_cons, ih]
theorem LedKV.snoc {s : Str} {d : Addr} {od : Obj} {m : List (Str × Int)} (h : LedKV B kvs ls) (hd : B d = some (.frz od (.dK (kvI m)))) : LedKV B (kvs ++ [(.inr s, .ref d)]) (ls ++ [(s, m)]) := by
  induction h with
  | nil => exact .cons hd .nil
  | cons h _ ih => exact .cons h ih
theorem RowKV.snoc {v : V} {r : PRow} (h : RowKV K B kvs rs) (hv : Dp K B v (encRest r)) : RowKV K B (kvs ++ [(.inr r.name, v)]) (rs ++ [r]) := by
  induction h with
  | nil => exact .cons hv .nil
  | cons h _ ih => exact .cons h ih
theorem LedKV.get {s : Str} {m : List (Str × Int)} (h : LedKV B kvs ls) (e : getA ls s = some m) : ∃ d od, valV kvs (.inr s) = some (.ref d) ∧ B d = some (.frz od (.dK (kvI m))) := by
  induction h with
  | nil => cases e
  | @cons s' d od m' kvs ls hd _ ih =>
    by_cases hs : s' = s
    · subst hs
      have : m' = m := by
        unfold getA at e
        rw [List.find?_cons] at e
        simpa using e
      subst this
      exact ⟨d, od, valV_pos rfl, hd⟩
    · have : getA ls s = some m := by
        unfold getA at e ⊢
        rw [List.find?_cons, show decide ((s', m').1 = s) = false from decide_eq_false hs] at e
        exact e
      obtain ⟨d, od, e1, e2⟩ := ih this
      exact ⟨d, od, by rw [valV_neg (fun z => hs (Sum.inr.inj z))]; exact e1, e2⟩
end
/-! the sums keep their keys -/
theorem addA_keys {f : List (Str × Int)} {s : Str} {i : Int} (h : s ∈ f.map (·.1)) : (addA f s i).map (·.1) = f.map (·.1) := putA_keys f s _ h
theorem addAll_keys {m : Int} {f more : List (Str × Int)} (h : ∀ y ∈ more, y.1 ∈ f.map (·.1)) : (addAll m f more).map (·.1) = f.map (·.1) := by
  unfold addAll
  induction more generalizing f with
  | nil => rfl
  | cons y more ih =>
    rw [List.foldl_cons, ih (f := addA f y.1 (m * y.2))]
    · exact addA_keys (h y (List.mem_cons_self ..))
    · intro z hz
      rw [addA_keys (h y (List.mem_cons_self ..))]
      exact h z (List.mem_cons_of_mem _ hz)
theorem getA_of_mem {α : Type} {l : List (Str × α)} {s : Str} (h : s ∈ l.map (·.1)) : ∃ v, getA l s = some v := Option.isSome_iff_exists.mp ((getA_isSome l s).mpr h)
theorem len_of_keys {α β : Type} {f : List (Str × α)} {g : List (Str × β)} (h : f.map (·.1) = g.map (·.1)) : f.length = g.length := by simpa using congrArg List.length h
theorem needStep_keys {ls : List (Str × List (Str × Int))} {f : List (Str × Int)} {p : Str × Int} (h : p.1 ∈ f.map (·.1)) (hm : ∀ m, getA ls p.1 = some m → ∀ y ∈ m, y.1 ∈ f.map (·.1)) : (needStep ls f p).map (·.1) = f.map (·.1) := by
  unfold needStep
  rw [addAll_keys, addA_keys h]
  intro y hy
  rw [addA_keys h]
  cases e : getA ls p.1 with
  | none => rw [e] at hy; cases hy
  | some m => rw [e] at hy; exact hm m e y hy
theorem needs_keys {ls : List (Str × List (Str × Int))} {f : List (Str × Int)} {ps : List (Str × Int)} (h : ∀ p ∈ ps, p.1 ∈ f.map (·.1)) (hm : ∀ p ∈ ps, ∀ m, getA ls p.1 = some m → ∀ y ∈ m, y.1 ∈ f.map (·.1)) : (ps.foldl (needStep ls) f).map (·.1) = f.map (·.1) := by
  induction ps generalizing f with
  | nil => rfl
  | cons p ps ih =>
    have h1 := needStep_keys (h p (List.mem_cons_self ..)) (hm p (List.mem_cons_self ..))
    rw [List.foldl_cons, ih, h1]
    · intro q hq; rw [h1]; exact h q (List.mem_cons_of_mem _ hq)
    · intro q hq m e y hy; rw [h1]; exact hm q (List.mem_cons_of_mem _ hq) m e y hy
theorem kvI_get {m : List (Str × Int)} {j : Nat} {kv : Key × V} (h : (kvI m)[j]? = some kv) : ∃ y, m[j]? = some y ∧ kv = (.inr y.1, .int y.2) := by
  unfold kvI at h
  rw [List.getElem?_map] at h
  cases e : m[j]? with
  | none => rw [e] at h; cases h
  | some y => rw [e] at h; exact ⟨y, rfl, (Option.some.inj h).symm⟩
theorem foldl_take_succ {α β : Type} {g : β → α → β} {b : β} {l : List α} {i : Nat} {x : α} (h : l[i]? = some x) : (l.take (i + 1)).foldl g b = g ((l.take i).foldl g b) x := by
  rw [List.take_add_one, h, List.foldl_append]; rfl
theorem kvI_keys (m : List (Str × Int)) : (kvI m).map (·.1) = (m.map (·.1)).map Sum.inr := by
  unfold kvI
  rw [List.map_map, List.map_map]; rfl
/-- a dict's row by its number -/
def vInt (c : Int → Bool) (kv : Key × V) : Bool := match kv.2 with | .int i => c i | _ => false
theorem kvI_filter (m : List (Str × Int)) (c : Int → Bool) : (kvI m).filter (vInt c) = kvI (m.filter fun p => c p.2) := by
  unfold kvI
  rw [List.filter_map]; rfl
abbrev fldsP (r l : Addr) : List (Str × V) := [("rows", .ref r), ("led", .ref l)]
theorem getA_mem {α : Type} {l : List (Str × α)} {s : Str} {v : α} (h : getA l s = some v) : (s, v) ∈ l := by
  unfold getA at h
  obtain ⟨p, hp, e⟩ := Option.map_eq_some_iff.mp h
  have h1 := List.mem_of_find?_eq_some hp
  have h2 := List.find?_some hp
  have : p.1 = s := of_decide_eq_true h2
  rw [← this, ← e]
  exact h1
theorem ledOf_take {rs : List PRow} {i : Nat} {r : PRow} (h : rs[i]? = some r) : ledOf (rs.take (i + 1)) = ledStep (ledOf (rs.take i)) r := foldl_take_succ h
theorem ledRaw_keys {names : List Str} {ls : List (Str × List (Str × Int))} {needs : List (Str × Int)} (h : ∀ x ∈ needs, x.1 ∈ names ∧ ∀ m, getA ls x.1 = some m → ∀ y ∈ m, y.1 ∈ names) : (ledRaw names ls needs).map (·.1) = names := by
  have e0 : (names.map fun s => ((s, 0) : Str × Int)).map (·.1) = names := by rw [List.map_map]; exact List.map_id' _
  unfold ledRaw
  rw [needs_keys, e0]
  · intro y hy; rw [e0]; exact (h y hy).1
  · intro y hy m em z hz; rw [e0]; exact (h y hy).2 m em z hz
theorem ledTo_in {names : List Str} {ls : List (Str × List (Str × Int))} {needs : List (Str × Int)} (h : ∀ x ∈ needs, x.1 ∈ names ∧ ∀ m, getA ls x.1 = some m → ∀ y ∈ m, y.1 ∈ names) : ∀ y ∈ ledTo names ls needs, y.1 ∈ names := by
  intro y hy
  rw [← ledRaw_keys h]
  exact List.mem_map.mpr ⟨y, (List.mem_filter.mp hy).1, rfl⟩
section
variable {rs : List PRow}
theorem take_succ_map {i : Nat} {r : PRow} (h : rs[i]? = some r) : (rs.take (i + 1)).map (·.name) = (rs.take i).map (·.name) ++ [r.name] := by
  rw [List.take_add_one, h, List.map_append]; rfl
theorem GoodBook.nodup (G : GoodBook rs) (i : Nat) : ((rs.take i).map (·.name)).Nodup := by
  induction i with
  | zero => exact List.nodup_nil
  | succ i ih =>
    cases e : rs[i]? with
    | none =>
      have : rs.length ≤ i := List.getElem?_eq_none_iff.mp e
      rw [List.take_of_length_le (by omega)]
      rw [List.take_of_length_le this] at ih
      exact ih
    | some r =>
      rw [take_succ_map e]
      refine List.nodup_append.mpr ⟨ih, List.nodup_cons.mpr ⟨(by simp), List.nodup_nil⟩, ?_⟩
      intro a ha b hb hab
      rw [List.mem_singleton] at hb
      subst hb hab
      exact (G.row i r e).new ha
theorem GoodBook.known (G : GoodBook rs) (i : Nat) : ∀ p ∈ ledOf (rs.take i), ∀ y ∈ p.2, y.1 ∈ (rs.take i).map (·.name) := by
  induction i with
  | zero => intro p hp; cases hp
  | succ i ih =>
    cases e : rs[i]? with
    | none =>
      have : rs.length ≤ i := List.getElem?_eq_none_iff.mp e
      rw [List.take_of_length_le (show rs.length ≤ i + 1 by omega)]
      rw [List.take_of_length_le this] at ih
      exact ih
    | some r =>
      rw [take_succ_map e, ledOf_take e]
      intro p hp y hy
      rcases List.mem_append.mp hp with hp | hp
      · exact List.mem_append_left _ (ih p hp y hy)
      · rw [List.mem_singleton] at hp
        subst hp
        rw [← ledOf_names]
        refine ledTo_in (fun x hx => ⟨?_, fun m hm z hz => ?_⟩) y hy
        · rw [ledOf_names]; exact List.mem_append_left _ ((G.row i r e).known x hx)
        · rw [ledOf_names]; exact List.mem_append_left _ (ih _ (getA_mem hm) z hz)
theorem GoodBook.needs (G : GoodBook rs) {i : Nat} {r : PRow} (e : rs[i]? = some r) : ∀ x ∈ r.needs, x.1 ∈ (rs.take i).map (·.name) ++ [r.name] ∧ (1 ≤ x.2 ∧ x.2 ≤ 9) ∧ ∃ m, getA (ledOf (rs.take i)) x.1 = some m ∧ ∀ y ∈ m, y.1 ∈ (rs.take i).map (·.name) ++ [r.name] := by
  intro x hx
  have R := G.row i r e
  obtain ⟨m, hm⟩ := getA_of_mem (l := ledOf (rs.take i)) (s := x.1) (by rw [ledOf_names]; exact R.known x hx)
  exact ⟨List.mem_append_left _ (R.known x hx), R.many x hx, m, hm, fun y hy => List.mem_append_left _ (G.known i _ (getA_mem hm) y hy)⟩
theorem ledOf_sub (i : Nat) : ∀ p ∈ ledOf (rs.take i), p ∈ ledOf rs := by
  suffices h : ∀ (xs : List PRow) (ls : List (Str × List (Str × Int))), ∀ p ∈ ls, p ∈ xs.foldl ledStep ls by
    intro p hp
    have := h (rs.drop i) (ledOf (rs.take i)) p hp
    unfold ledOf at this ⊢
    rw [← List.foldl_append, List.take_append_drop] at this
    exact this
  intro xs
  induction xs with
  | nil => intro ls p hp; exact hp
  | cons r xs ih => intro ls p hp; exact ih _ p (List.mem_append_left _ hp)
end
theorem kvI_vals (m : List (Str × Int)) : (kvI m).map (·.2) = (m.map (·.2)).map V.int := by
  unfold kvI
  rw [List.map_map, List.map_map]; rfl
theorem zipIdx_at {α : Type} {l : List α} {i : Nat} {y : α × Nat} (h : l.zipIdx[i]? = some y) : l[i]? = some y.1 ∧ y.2 = i := by
  rw [List.getElem?_zipIdx] at h
  cases e : l[i]? with
  | none => rw [e] at h; cases h
  | some x =>
    rw [e] at h
    have := Option.some.inj h
    subst this
    exact ⟨rfl, by simp⟩
theorem ledTo_sub {names : List Str} {ls : List (Str × List (Str × Int))} {needs : List (Str × Int)} (h : ∀ x ∈ needs, x.1 ∈ names ∧ ∀ m, getA ls x.1 = some m → ∀ y ∈ m, y.1 ∈ names) : ((ledTo names ls needs).map (·.1)).Sublist names := by
  have h1 : ((ledTo names ls needs).map (·.1)).Sublist ((ledRaw names ls needs).map (·.1)) := List.filter_sublist.map _
  rw [ledRaw_keys h] at h1
  exact h1
theorem GoodBook.led_sub {rs : List PRow} (G : GoodBook rs) (i : Nat) : ∀ p ∈ ledOf (rs.take i), (p.2.map (·.1)).Sublist ((rs.take i).map (·.name)) := by
  induction i with
  | zero => intro p hp; cases hp
  | succ i ih =>
    cases e : rs[i]? with
    | none =>
      have : rs.length ≤ i := List.getElem?_eq_none_iff.mp e
      rw [List.take_of_length_le (show rs.length ≤ i + 1 by omega)]
      rw [List.take_of_length_le this] at ih
      exact ih
    | some r =>
      rw [take_succ_map e, ledOf_take e]
      intro p hp
      rcases List.mem_append.mp hp with hp | hp
      · exact (ih p hp).trans (List.sublist_append_left _ _)
      · rw [List.mem_singleton] at hp
        subst hp
        have := ledTo_sub (names := (ledOf (rs.take i)).map (·.1) ++ [r.name]) (ls := ledOf (rs.take i)) (needs := r.needs) (fun x hx => ⟨by rw [ledOf_names]; exact List.mem_append_left _ ((G.row i r e).known x hx), fun m hm z hz => by rw [ledOf_names]; exact List.mem_append_left _ (G.known i _ (getA_mem hm) z hz)⟩)
        rw [ledOf_names] at this
        rw [ledOf_names]
        exact this
theorem GoodBook.led_all {rs : List PRow} (G : GoodBook rs) : ∀ p ∈ ledOf rs, (p.2.map (·.1)).Sublist (rs.map (·.name)) := by
  have := G.led_sub rs.length
  rw [List.take_length] at this
  exact this
theorem GoodBook.led_len {rs : List PRow} (G : GoodBook rs) {p : Str × List (Str × Int)} (h : p ∈ ledOf rs) : p.2.length ≤ 12 := by
  have h1 := (G.led_all p h).length_le
  have := G.len
  rw [List.length_map, List.length_map] at h1
  omega
end PM

/-! a floor, plainly -/
namespace PM
open PySem L2 WK
inductive Hold where
  | lot (j : Nat) (m : Int)
  | pc (k : Nat)
  deriving DecidableEq
structure Lt where
  part : Str
  left : Int
  price : Int
structure Pc where
  part : Str
  state : Str
  at_ : Int
  cost : Int
  holds : List Hold
  above : Option Nat
  client : Option Int
  own : Int
inductive Deed where
  | buy (p : Str) (m pr : Int)
  | begin_ (p : Str)
  | work (k : Int)
  | test (k : Int) (g : Bool)
  | rework (k a : Int)
  | swap (k o n : Int)
  | scrap (k : Int)
  | strip (k : Int)
  | sell (k c : Int)
  | back (k : Int)
def encDeed : Deed → PyData
  | .buy p m pr => .tuple [.str "buy", .str p, .int m, .int pr]
  | .begin_ p => .tuple [.str "begin", .str p]
  | .work k => .tuple [.str "work", .int k]
  | .test k g => .tuple [.str "test", .int k, .bool g]
  | .rework k a => .tuple [.str "rework", .int k, .int a]
  | .swap k o n => .tuple [.str "swap", .int k, .int o, .int n]
  | .scrap k => .tuple [.str "scrap", .int k]
  | .strip k => .tuple [.str "strip", .int k]
  | .sell k c => .tuple [.str "sell", .int k, .int c]
  | .back k => .tuple [.str "back", .int k]
structure Fl where
  rs : List PRow
  rates : List Int
  lots : List Lt
  pcs : List Pc
  book : List Deed
  spent : Int
  lost : Int
abbrev sMaking : Str := "making"
abbrev sMade : Str := "made"
abbrev sBad : Str := "bad"
abbrev sStock : Str := "stock"
abbrev sWithin : Str := "within"
abbrev sSold : Str := "sold"
abbrev sScrap : Str := "scrap"
abbrev sStripped : Str := "stripped"
/-- a part's row -/
def rowOf (rs : List PRow) (z : Str) : Option PRow := rs.find? fun r => decide (r.name = z)
def lotsOf (hs : List Hold) : List (Nat × Int) := hs.filterMap fun h => match h with | .lot j m => some (j, m) | .pc _ => none
def pcsOf (hs : List Hold) : List Nat := hs.filterMap fun h => match h with | .lot _ _ => none | .pc k => some k
theorem lotsOf_app (a b : List Hold) : lotsOf (a ++ b) = lotsOf a ++ lotsOf b := List.filterMap_append
theorem pcsOf_app (a b : List Hold) : pcsOf (a ++ b) = pcsOf a ++ pcsOf b := List.filterMap_append
/-- a floor at its beginning -/
def Fl.new (rs : List PRow) (rates : List Int) : Fl := ⟨rs, rates, [], [], [], 0, 0⟩
def Fl.buy (fs : Fl) (z : Str) (m pr : Int) : Fl := { fs with lots := fs.lots ++ [⟨z, m, pr⟩], spent := fs.spent + m * pr, book := fs.book ++ [.buy z m pr] }
def Pc.work (p : Pc) (c : Int) (n : Nat) : Pc := { p with at_ := p.at_ + 1, cost := p.cost + c, own := p.own + c, state := if p.at_ + 1 = (n : Int) then "made" else p.state }
def Fl.work (fs : Fl) (k : Nat) (p : Pc) (c : Int) (n : Nat) : Fl := { fs with pcs := fs.pcs.set k (p.work c n), spent := fs.spent + c, book := fs.book ++ [.work k] }
/-- a piece becomes another, which is noted -/
def Fl.put (fs : Fl) (k : Nat) (p : Pc) (d : Deed) : Fl := { fs with pcs := fs.pcs.set k p, book := fs.book ++ [d] }
theorem rowOf_mem {rs : List PRow} {z : Str} {r : PRow} (h : rowOf rs z = some r) : r ∈ rs ∧ r.name = z := by
  unfold rowOf at h
  exact ⟨List.mem_of_find?_eq_some h, by simpa using List.find?_some h⟩
end PM
namespace PM
open PySem L2 WK
def takeStep (z : Str) (acc : List (Nat × Int) × Int) (x : Lt × Nat) : List (Nat × Int) × Int :=
  if x.1.part = z ∧ 0 < x.1.left ∧ 0 < acc.2 then (acc.1 ++ [(x.2, if acc.2 < x.1.left then acc.2 else x.1.left)], acc.2 - (if acc.2 < x.1.left then acc.2 else x.1.left)) else acc
/-- the eldest lots of a part, so many; what is left to take -/
def takeLots (lots : List Lt) (z : Str) (m : Int) : List (Nat × Int) × Int := lots.zipIdx.foldl (takeStep z) ([], m)
/-- the pieces of a part in stock -/
def stockOf (pcs : List Pc) (z : Str) : List Nat := (pcs.zipIdx.filter fun x => decide (x.1.part = z) && decide (x.1.state = sStock)).map (·.2)
theorem takeStep_keys (z : Str) (acc : List (Nat × Int) × Int) (x : Lt × Nat) : ∀ k ∈ (takeStep z acc x).1.map (·.1), k ∈ acc.1.map (·.1) ∨ k = x.2 := by
  intro k hk
  unfold takeStep at hk
  split at hk
  · rw [List.map_append] at hk
    rcases List.mem_append.mp hk with hk | hk
    · exact .inl hk
    · right
      simpa using hk
  · exact .inl hk
theorem takeFold_keys (z : Str) : ∀ (xs : List (Lt × Nat)) (acc : List (Nat × Int) × Int), ∀ k ∈ (xs.foldl (takeStep z) acc).1.map (·.1), k ∈ acc.1.map (·.1) ∨ k ∈ xs.map (·.2)
  | [], acc, k, hk => .inl hk
  | x :: xs, acc, k, hk => by
    rcases takeFold_keys z xs (takeStep z acc x) k hk with h | h
    · rcases takeStep_keys z acc x k h with h | h
      · exact .inl h
      · right; rw [h]; exact List.mem_cons_self ..
    · exact .inr (List.mem_cons_of_mem _ h)
theorem takeFold_len (z : Str) : ∀ (xs : List (Lt × Nat)) (acc : List (Nat × Int) × Int), (xs.foldl (takeStep z) acc).1.length ≤ acc.1.length + xs.length
  | [], acc => Nat.le_refl _
  | x :: xs, acc => by
    have h1 := takeFold_len z xs (takeStep z acc x)
    have h2 : (takeStep z acc x).1.length ≤ acc.1.length + 1 := by
      unfold takeStep
      split
      · rw [List.length_append]; exact Nat.le_refl _
      · omega
    rw [List.foldl_cons, List.length_cons]
    omega
/-- what a piece takes -/
def Fl.give (fs : Fl) (k0 : Nat) : Hold → Fl
  | .pc k1 => match fs.pcs[k1]?, fs.pcs[k0]? with
    | some q, some p => { fs with pcs := (fs.pcs.set k1 { q with state := "within", above := some k0 }).set k0 { p with holds := p.holds ++ [.pc k1], cost := p.cost + q.cost } }
    | _, _ => fs
  | .lot j m => match fs.lots[j]?, fs.pcs[k0]? with
    | some x, some p => { fs with lots := fs.lots.set j { x with left := x.left - m }, pcs := fs.pcs.set k0 { p with holds := p.holds ++ [.lot j m], cost := p.cost + m * x.price } }
    | _, _ => fs
end PM
namespace PM
abbrev newPc (z : PySem.Str) : Pc := ⟨z, "making", 0, 0, [], none, none, 0⟩
end PM

namespace WK
open PySem PySem.Spec PyProof.Rows L2 PM
/-! the cells of a floor -/
structure ALot where
  a : Addr
  dx : Addr
  s : Lt
structure APc where
  a : Addr
  dx : Addr
  l : Addr
  p : Addr
  s : Pc
structure AFl where
  f : Addr
  dx : Addr
  bk : Addr
  la : Addr
  pa : Addr
  na : Addr
  rt : V
  nv : List V
  rs : List PRow
  rates : List Int
  lots : List ALot
  pcs : List APc
  book : List Deed
  spent : Int
  lost : Int
def AFl.st (A : AFl) : Fl := ⟨A.rs, A.rates, A.lots.map (·.s), A.pcs.map (·.s), A.book, A.spent, A.lost⟩
def optN : Option Nat → V
  | none => .non
  | some k => .int (k : Nat)
def optI : Option Int → V
  | none => .non
  | some k => .int k
abbrev flF (A : AFl) : List (Str × V) := [("book", .ref A.bk), ("rates", A.rt), ("lots", .ref A.la), ("pieces", .ref A.pa), ("notes", .ref A.na), ("spent", .int A.spent), ("lost", .int A.lost)]
abbrev ltF (s : Lt) : List (Str × V) := [("part", .str s.part), ("left", .int s.left), ("price", .int s.price)]
abbrev pcF (P : APc) : List (Str × V) := [("part", .str P.s.part), ("state", .str P.s.state), ("at", .int P.s.at_), ("cost", .int P.s.cost), ("lots", .ref P.l), ("pieces", .ref P.p), ("above", optN P.s.above), ("client", optI P.s.client)]
def lotKV (hs : List Hold) : List (Key × V) := (lotsOf hs).map fun x => (.inl (x.1 : Int), .int x.2)
def pcV (hs : List Hold) : List V := (pcsOf hs).map fun (k : Nat) => V.int (k : Int)
abbrev lotC (CL : Addr) (x : ALot) : Addr × HO := (x.a, .ins CL x.dx (ltF x.s))
abbrev pcI (CI : Addr) (P : APc) : Addr × HO := (P.a, .ins CI P.dx (pcF P))
abbrev pcL (P : APc) : Addr × HO := (P.l, .dK (lotKV P.s.holds))
abbrev pcP (P : APc) : Addr × HO := (P.p, .lst (pcV P.s.holds))
def pcC (CI : Addr) (P : APc) : Led := [pcI CI P, pcL P, pcP P]
def FL (CF CL CI : Addr) (A : AFl) : Led :=
  (A.f, .ins CF A.dx (flF A)) :: (A.la, .lst (A.lots.map fun x => .ref x.a)) :: (A.pa, .lst (A.pcs.map fun P => .ref P.a)) :: (A.na, .lst A.nv) :: (A.lots.map (lotC CL) ++ A.pcs.flatMap (pcC CI))
/-- the book of a floor -/
def BookAt (K : PySem.W.Frag) (CP : Addr) (B : Hp) (p : Addr) (rs : List PRow) : Prop := ∃ dx a l rkv lkv, B p = some (.ins CP dx (fldsP a l)) ∧ B a = some (.dK rkv) ∧ B l = some (.dK lkv) ∧ RowKV K B rkv rs ∧ LedKV B lkv (ledOf rs)
theorem BookAt.up {K : PySem.W.Frag} {CP : Addr} {B B' : Hp} {p : Addr} {rs : List PRow} (e : Ex B B') (h : BookAt K CP B p rs) : BookAt K CP B' p rs := by
  obtain ⟨dx, a, l, rkv, lkv, h1, h2, h3, h4, h5⟩ := h
  exact ⟨dx, a, l, rkv, lkv, e _ _ h1, e _ _ h2, e _ _ h3, h4.up e, h5.up e⟩
structure FB (K : PySem.W.Frag) (CP : Addr) (B : Hp) (A : AFl) : Prop where
  book : BookAt K CP B A.bk A.rs
  rates : Dp K B A.rt (.tuple (A.rates.map .int))
  notes : DpAll K B A.nv (A.book.map encDeed)
  good : GoodBook A.rs
  six : A.rates.length = 6
  few : A.lots.length + A.pcs.length ≤ A.book.length
theorem FB.up {K : PySem.W.Frag} {CP : Addr} {B B' : Hp} {A : AFl} (e : Ex B B') (h : FB K CP B A) : FB K CP B' A := ⟨h.book.up e, h.rates.up e, h.notes.up e, h.good, h.six, h.few⟩
/-- what the text says of the classes -/
structure FlK (K : PySem.W.Frag) (CP CF CL CI : Addr) : Prop where
  cP : Cls K CP
  cF : Cls K CF
  cL : Cls K CL
  cI : Cls K CI
  a1 : NoAttr K CP "rows"
  a2 : NoAttr K CP "led"
  b1 : NoAttr K CF "book"
  b2 : NoAttr K CF "rates"
  b3 : NoAttr K CF "lots"
  b4 : NoAttr K CF "pieces"
  b5 : NoAttr K CF "notes"
  b6 : NoAttr K CF "spent"
  b7 : NoAttr K CF "lost"
  c1 : NoAttr K CL "part"
  c2 : NoAttr K CL "left"
  c3 : NoAttr K CL "price"
  d1 : NoAttr K CI "part"
  d2 : NoAttr K CI "state"
  d3 : NoAttr K CI "at"
  d4 : NoAttr K CI "cost"
  d5 : NoAttr K CI "lots"
  d6 : NoAttr K CI "pieces"
  d7 : NoAttr K CI "above"
  d8 : NoAttr K CI "client"
section
variable {F : Ent} {B H : Hp} {L : Led} {CF CL CI : Addr} {A : AFl} {P : APc} {x : ALot} {k j : Nat}
theorem Ok.flF (S : Ok F B (FL CF CL CI A ++ L) H) : H A.f = some (.ins CF A.dx (flF A)) := S.mem (.head _)
theorem Ok.flL (S : Ok F B (FL CF CL CI A ++ L) H) : H A.la = some (.lst (A.lots.map fun x => .ref x.a)) := S.mem (.tail _ (.head _))
theorem Ok.flP (S : Ok F B (FL CF CL CI A ++ L) H) : H A.pa = some (.lst (A.pcs.map fun P => .ref P.a)) := S.mem (.tail _ (.tail _ (.head _)))
theorem Ok.flN (S : Ok F B (FL CF CL CI A ++ L) H) : H A.na = some (.lst A.nv) := S.mem (.tail _ (.tail _ (.tail _ (.head _))))
theorem mem_lot (h : A.lots[j]? = some x) : lotC CL x ∈ FL CF CL CI A ++ L := by
  refine List.mem_append_left _ ?_
  exact .tail _ (.tail _ (.tail _ (.tail _ (List.mem_append_left _ (List.mem_map.mpr ⟨x, List.mem_of_getElem? h, rfl⟩)))))
theorem mem_pc {q : Addr × HO} (h : A.pcs[k]? = some P) (hq : q ∈ pcC CI P) : q ∈ FL CF CL CI A ++ L := by
  refine List.mem_append_left _ ?_
  exact .tail _ (.tail _ (.tail _ (.tail _ (List.mem_append_right _ (List.mem_flatMap.mpr ⟨P, List.mem_of_getElem? h, hq⟩)))))
theorem Ok.flLot (S : Ok F B (FL CF CL CI A ++ L) H) (h : A.lots[j]? = some x) : H x.a = some (.ins CL x.dx (ltF x.s)) := S.mem (mem_lot h)
theorem Ok.flPc (S : Ok F B (FL CF CL CI A ++ L) H) (h : A.pcs[k]? = some P) : H P.a = some (.ins CI P.dx (pcF P)) := S.mem (mem_pc h (.head _))
theorem Ok.flPl (S : Ok F B (FL CF CL CI A ++ L) H) (h : A.pcs[k]? = some P) : H P.l = some (.dK (lotKV P.s.holds)) := S.mem (mem_pc h (.tail _ (.head _)))
theorem Ok.flPp (S : Ok F B (FL CF CL CI A ++ L) H) (h : A.pcs[k]? = some P) : H P.p = some (.lst (pcV P.s.holds)) := S.mem (mem_pc h (.tail _ (.tail _ (.head _))))
theorem at_split {α : Type} {l : List α} {k : Nat} {x : α} (h : l[k]? = some x) : ∃ l1 l2, l = l1 ++ x :: l2 ∧ l1.length = k ∧ ∀ y, l.set k y = l1 ++ y :: l2 := by
  obtain ⟨hk, e⟩ := List.getElem?_eq_some_iff.mp h
  refine ⟨l.take k, l.drop (k + 1), ?_, by rw [List.length_take]; omega, fun y => ?_⟩
  · rw [← e, List.getElem_cons_drop, List.take_append_drop]
  · rw [List.set_eq_take_append_cons_drop, if_pos hk]
/-- a piece's own fields -/
theorem Ok.setP (S : Ok F B (FL CF CL CI A ++ L) H) (h : A.pcs[k]? = some P) (P' : APc) (e1 : P'.a = P.a) (e2 : P'.dx = P.dx) (e3 : P'.l = P.l) (e4 : P'.p = P.p) (e5 : P'.s.holds = P.s.holds) :
    Ok F B (FL CF CL CI { A with pcs := A.pcs.set k P' } ++ L) (upd H P.a (.ins CI P.dx (pcF P'))) := by
  obtain ⟨l1, l2, hl, hk, hs⟩ := at_split h
  have hF : FL CF CL CI A ++ L = ((A.f, HO.ins CF A.dx (WK.flF A)) :: (A.la, .lst (A.lots.map fun x => .ref x.a)) :: (A.pa, .lst (A.pcs.map fun P => .ref P.a)) :: (A.na, .lst A.nv) :: (A.lots.map (lotC CL) ++ l1.flatMap (pcC CI))) ++ (P.a, .ins CI P.dx (pcF P)) :: (pcL P :: pcP P :: (l2.flatMap (pcC CI) ++ L)) := by
    unfold FL
    rw [hl]
    simp only [List.flatMap_append, List.flatMap_cons, List.append_assoc, List.cons_append]
    rfl
  have hr : (A.pcs.set k P').map (fun P => V.ref P.a) = A.pcs.map fun P => V.ref P.a := by
    rw [hs P', hl, List.map_append, List.map_append, List.map_cons, List.map_cons, e1]
  have hF' : FL CF CL CI { A with pcs := A.pcs.set k P' } ++ L = ((A.f, HO.ins CF A.dx (WK.flF A)) :: (A.la, .lst (A.lots.map fun x => .ref x.a)) :: (A.pa, .lst (A.pcs.map fun P => .ref P.a)) :: (A.na, .lst A.nv) :: (A.lots.map (lotC CL) ++ l1.flatMap (pcC CI))) ++ (P.a, .ins CI P.dx (pcF P')) :: (pcL P :: pcP P :: (l2.flatMap (pcC CI) ++ L)) := by
    unfold FL
    dsimp only
    rw [hr, hs P', hl]
    simp only [List.flatMap_append, List.flatMap_cons, List.append_assoc, List.cons_append]
    rw [show pcC CI P' = [(P.a, .ins CI P.dx (pcF P')), pcL P, pcP P] by unfold pcC pcI pcL pcP; rw [e1, e2, e3, e4, e5]]
    rfl
  rw [hF'] 
  rw [hF] at S
  exact S.mutAt
/-- a lot's fields -/
theorem Ok.setLt (S : Ok F B (FL CF CL CI A ++ L) H) (h : A.lots[j]? = some x) (s' : Lt) :
    Ok F B (FL CF CL CI { A with lots := A.lots.set j { x with s := s' } } ++ L) (upd H x.a (.ins CL x.dx (ltF s'))) := by
  obtain ⟨l1, l2, hl, hk, hs⟩ := at_split h
  have hF : FL CF CL CI A ++ L = ((A.f, HO.ins CF A.dx (WK.flF A)) :: (A.la, .lst (A.lots.map fun x => .ref x.a)) :: (A.pa, .lst (A.pcs.map fun P => .ref P.a)) :: (A.na, .lst A.nv) :: l1.map (lotC CL)) ++ (x.a, .ins CL x.dx (ltF x.s)) :: (l2.map (lotC CL) ++ (A.pcs.flatMap (pcC CI) ++ L)) := by
    unfold FL
    rw [hl]
    simp only [List.map_append, List.map_cons, List.append_assoc, List.cons_append]
  have hr : (A.lots.set j { x with s := s' }).map (fun x => V.ref x.a) = A.lots.map fun x => V.ref x.a := by
    rw [hs, hl, List.map_append, List.map_append, List.map_cons, List.map_cons]
  have hF' : FL CF CL CI { A with lots := A.lots.set j { x with s := s' } } ++ L = ((A.f, HO.ins CF A.dx (WK.flF A)) :: (A.la, .lst (A.lots.map fun x => .ref x.a)) :: (A.pa, .lst (A.pcs.map fun P => .ref P.a)) :: (A.na, .lst A.nv) :: l1.map (lotC CL)) ++ (x.a, .ins CL x.dx (ltF s')) :: (l2.map (lotC CL) ++ (A.pcs.flatMap (pcC CI) ++ L)) := by
    unfold FL
    dsimp only
    rw [hr, hs, hl]
    simp only [List.map_append, List.map_cons, List.append_assoc, List.cons_append]
  rw [hF']
  rw [hF] at S
  exact S.mutAt
theorem Ok.setSpent (S : Ok F B (FL CF CL CI A ++ L) H) (i : Int) : Ok F B (FL CF CL CI { A with spent := i } ++ L) (upd H A.f (.ins CF A.dx (WK.flF { A with spent := i }))) := S.mut
theorem Ok.setLost (S : Ok F B (FL CF CL CI A ++ L) H) (i : Int) : Ok F B (FL CF CL CI { A with lost := i } ++ L) (upd H A.f (.ins CF A.dx (WK.flF { A with lost := i }))) := S.mut
theorem Ok.addNote (S : Ok F B (FL CF CL CI A ++ L) H) (v : V) (d : Deed) : Ok F B (FL CF CL CI { A with nv := A.nv ++ [v], book := A.book ++ [d] } ++ L) (upd H A.na (.lst (A.nv ++ [v]))) :=
  S.mutN 3 rfl
end
end WK

namespace WK
open PySem PySem.Spec PyProof.Rows L2 PM
/-! attributes as targets -/
def gAtt (K : PySem.W.Frag) (to : TE) (f : Str) : TG := fun v σ H Q => to σ H fun x H2 => ∃ a C dx fs, x = .ref a ∧ H2 a = some (.ins C dx fs) ∧ Cls K C ∧ NoAttr K C f ∧ fs.length < 1000 ∧ Q σ (upd H2 a (.ins C dx (putF f v fs)))
theorem pg_att (K : PySem.W.Frag) {X : Cx} {o : Expr} {f : Str} {to : TE} {pos : Pos} (ho : PE X o to) (hK : X.K = K := by rfl) : PG X (.Attribute o f pos) (gAtt K to f) := by
  subst hK
  refine ⟨fun pins s σ H v u Q I r h => ?_⟩
  rw [assign_Attribute]
  refine wpAny_bind (wpAny_holding (thn (ho.run pins s σ H _ I h) fun ov s1 ⟨x, H1, I1, r1, a, C, dx, fs, ex, ea, c, n, l, q⟩ => ?_))
  subst ex
  obtain rfl : ov = Value.ref a := r1
  refine wpAny_bind (wpAny_standAt (wpAny_bind (wpAny_holding (setattr_ok I1 ea c n l r fun s3 I3 => ?_))))
  exact wpAny_release ⟨σ, _, I3, q⟩
def AttQ (K : PySem.W.Frag) (f : Str) (y : V) (σ : L2.St) (Q : L2.St → Hp → Prop) : VK := fun x H2 => ∃ a C dx fs, x = .ref a ∧ H2 a = some (.ins C dx fs) ∧ Cls K C ∧ NoAttr K C f ∧ fs.length < 1000 ∧ Q σ (upd H2 a (.ins C dx (putF f y fs)))
theorem r_gatt {K : PySem.W.Frag} {σ : L2.St} {H : Hp} {to : TE} {f : Str} {v : V} {Q : L2.St → Hp → Prop} (k : to σ H (AttQ K f v σ Q)) : gAtt K to f v σ H Q := k
theorem ps_fldK (K : PySem.W.Frag) {X : Cx} {o value : Expr} {f : Str} {pos pos' : Pos} {ta tv : TE} (ha : PE X o ta) (hv : PE X value tv) (hs : swapsWith value (some (.Attribute o f pos')) pos.line X.env = pure false) (hK : X.K = K := by rfl) : PS X (.Assign [.Attribute o f pos'] value pos) (sFld K ta tv f) := by
  subst hK
  exact ps_fld ha hv hs
theorem ps_augK (K : PySem.W.Frag) {X : Cx} {o value : Expr} {f : Str} {pos tpos : Pos} {ta tv : TE} {op : Operator} {rd : V → V → Hp → VK → Prop} (ha : PE X o ta) (hv : PE X value tv) (hop : InOp X op rd) (hK : X.K = K := by rfl) : PS X (.AugAssign (.Attribute o f tpos) op value pos) (sFldAug K ta tv rd f) := by
  subst hK
  exact ps_fldaug ha hv hop
/-! o.f op= e -/
def AfQ (a C : Addr) (f : Str) (D : Ends) (σ : L2.St) : VK := fun z H3 => ∃ dx' fs', H3 a = some (.ins C dx' fs') ∧ fs'.length < 1000 ∧ D.nx σ (upd H3 a (.ins C dx' (putF f z fs')))
section
variable {K : PySem.W.Frag} {σ : L2.St} {H : Hp} {tv : TE} {f : Str} {Q : VK} {D : Ends} {a C dx : Addr} {fs : List (Str × V)} {v z : V} {rd : V → V → Hp → VK → Prop}
theorem afdQ (h : H a = some (.ins C dx fs)) (c : Cls K C) (n : NoAttr K C f) (l : fs.lookup f = some v) (k : tv σ H fun y H2 => rd v y H2 (AfQ a C f D σ)) : AFdQ K f rd tv D σ (.ref a) H := ⟨a, C, dx, fs, v, rfl, h, c, n, l, k⟩
theorem r_rAdd {i j : Int} (k : Q (.int (i + j)) H) : rAdd (.int i) (.int j) H Q := ⟨i, j, rfl, rfl, k⟩
theorem r_rSub {i j : Int} (k : Q (.int (i - j)) H) : rSub (.int i) (.int j) H Q := ⟨i, j, rfl, rfl, k⟩
end
def Pr3Q (Q : V → V → V → Hp → Prop) (vs : List V) (H : Hp) : Prop := ∃ v w u, vs = [v, w, u] ∧ Q v w u H
theorem r_par3 {i j l : Nat} {tas : TA} {σ : L2.St} {H : Hp} {D : Ends} (k : tas σ H (Pr3Q fun u v w H1 => D.nx (((σ.set i (some u)).set j (some v)).set l (some w)) H1)) : tPar3 i j l tas D σ H := k
theorem r_par33 {Q : V → V → V → Hp → Prop} {v w u : V} {H : Hp} (k : Q v w u H) : Pr3Q Q [v, w, u] H := ⟨v, w, u, rfl, k⟩
/-! in a floor -/
section
variable {K : PySem.W.Frag} {σ : L2.St} {D : Ends} {Qg : L2.St → Hp → Prop} {F : Ent} {B H : Hp} {L : Led} {CF CL CI : Addr} {A A' : AFl} {P : APc} {x : ALot} {k j : Nat} {f : Str} {y : V}
theorem Ok.under (L0 : Led) {H' : Hp} (S : Ok F B (L0 ++ (FL CF CL CI A ++ L)) H) (h : ∀ L, Ok F B (FL CF CL CI A ++ L) H → Ok F B (FL CF CL CI A' ++ L) H') : Ok F B (L0 ++ (FL CF CL CI A' ++ L)) H' := by
  have p : ∀ X : Led, (L0 ++ (X ++ L)).Perm (X ++ (L0 ++ L)) := fun X => by
    rw [← List.append_assoc, ← List.append_assoc]
    exact List.Perm.append_right _ List.perm_append_comm
  exact (h _ (S.perm (p _))).perm (p _).symm
theorem sfdPx (L0 : Led) (S : Ok F B (L0 ++ (FL CF CL CI A ++ L)) H) (h : A.pcs[k]? = some P) (c : Cls K CI) (na : NoAttr K CI f) (P' : APc) (e : P'.a = P.a ∧ P'.dx = P.dx ∧ P'.l = P.l ∧ P'.p = P.p ∧ P'.s.holds = P.s.holds) (hf : putF f y (pcF P) = pcF P')
    (kk : ∀ H', Ok F B (L0 ++ (FL CF CL CI { A with pcs := A.pcs.set k P' } ++ L)) H' → D.nx σ H') : SFdQ K f y D σ (.ref P.a) H := by
  have S1 := S.under L0 fun L S => S.setP h P' e.1 e.2.1 e.2.2.1 e.2.2.2.1 e.2.2.2.2
  rw [← hf] at S1
  have hP : H P.a = some (.ins CI P.dx (pcF P)) := S.mem (List.mem_append_right _ (mem_pc h (.head _)))
  exact ⟨P.a, CI, P.dx, pcF P, rfl, hP, c, na, by show 8 < 1000; decide, kk _ S1⟩
theorem attPx (L0 : Led) (S : Ok F B (L0 ++ (FL CF CL CI A ++ L)) H) (h : A.pcs[k]? = some P) (c : Cls K CI) (na : NoAttr K CI f) (P' : APc) (e : P'.a = P.a ∧ P'.dx = P.dx ∧ P'.l = P.l ∧ P'.p = P.p ∧ P'.s.holds = P.s.holds) (hf : putF f y (pcF P) = pcF P')
    (kk : ∀ H', Ok F B (L0 ++ (FL CF CL CI { A with pcs := A.pcs.set k P' } ++ L)) H' → Qg σ H') : AttQ K f y σ Qg (.ref P.a) H := by
  have S1 := S.under L0 fun L S => S.setP h P' e.1 e.2.1 e.2.2.1 e.2.2.2.1 e.2.2.2.2
  rw [← hf] at S1
  have hP : H P.a = some (.ins CI P.dx (pcF P)) := S.mem (List.mem_append_right _ (mem_pc h (.head _)))
  exact ⟨P.a, CI, P.dx, pcF P, rfl, hP, c, na, by show 8 < 1000; decide, kk _ S1⟩
theorem afPx (L0 : Led) (S : Ok F B (L0 ++ (FL CF CL CI A ++ L)) H) (h : A.pcs[k]? = some P) (P' : APc) (e : P'.a = P.a ∧ P'.dx = P.dx ∧ P'.l = P.l ∧ P'.p = P.p ∧ P'.s.holds = P.s.holds) (hf : putF f y (pcF P) = pcF P')
    (kk : ∀ H', Ok F B (L0 ++ (FL CF CL CI { A with pcs := A.pcs.set k P' } ++ L)) H' → D.nx σ H') : AfQ P.a CI f D σ y H := by
  have S1 := S.under L0 fun L S => S.setP h P' e.1 e.2.1 e.2.2.1 e.2.2.2.1 e.2.2.2.2
  rw [← hf] at S1
  have hP : H P.a = some (.ins CI P.dx (pcF P)) := S.mem (List.mem_append_right _ (mem_pc h (.head _)))
  exact ⟨P.dx, pcF P, hP, by show 8 < 1000; decide, kk _ S1⟩
theorem afLx (L0 : Led) (S : Ok F B (L0 ++ (FL CF CL CI A ++ L)) H) (h : A.lots[j]? = some x) (s' : Lt) (hf : putF f y (ltF x.s) = ltF s')
    (kk : ∀ H', Ok F B (L0 ++ (FL CF CL CI { A with lots := A.lots.set j { x with s := s' } } ++ L)) H' → D.nx σ H') : AfQ x.a CL f D σ y H := by
  have S1 := S.under L0 fun L S => S.setLt h s'
  rw [← hf] at S1
  have hP : H x.a = some (.ins CL x.dx (ltF x.s)) := S.mem (List.mem_append_right _ (mem_lot h))
  exact ⟨x.dx, ltF x.s, hP, by show 3 < 1000; decide, kk _ S1⟩
theorem afSpentx (L0 : Led) (S : Ok F B (L0 ++ (FL CF CL CI A ++ L)) H) {i : Int} (kk : ∀ H', Ok F B (L0 ++ (FL CF CL CI { A with spent := i } ++ L)) H' → D.nx σ H') : AfQ A.f CF "spent" D σ (.int i) H := by
  have S1 := S.under L0 fun L S => S.setSpent i
  have hP : H A.f = some (.ins CF A.dx (flF A)) := S.mem (List.mem_append_right _ (.head _))
  exact ⟨A.dx, flF A, hP, by show 7 < 1000; decide, kk _ S1⟩
theorem afLostx (L0 : Led) (S : Ok F B (L0 ++ (FL CF CL CI A ++ L)) H) {i : Int} (kk : ∀ H', Ok F B (L0 ++ (FL CF CL CI { A with lost := i } ++ L)) H' → D.nx σ H') : AfQ A.f CF "lost" D σ (.int i) H := by
  have S1 := S.under L0 fun L S => S.setLost i
  have hP : H A.f = some (.ins CF A.dx (flF A)) := S.mem (List.mem_append_right _ (.head _))
  exact ⟨A.dx, flF A, hP, by show 7 < 1000; decide, kk _ S1⟩
/-- self.notes.append(..) -/
theorem v_notex {Pg : Program} {w : World} {Q : VK} {v : V} (L0 : Led) (d : Deed) (S : Ok F B (L0 ++ (FL CF CL CI A ++ L)) H) (hz : A.nv.length < sizeLine) (kk : ∀ H', Ok F B (L0 ++ (FL CF CL CI { A with nv := A.nv ++ [v], book := A.book ++ [d] } ++ L)) H' → Q .non H') : MetU Pg w K "list.append" (.ref A.na) [v] H Q :=
  .of (fun _ _ => mt_append) ⟨A.na, A.nv, v, rfl, rfl, S.mem (List.mem_append_right _ (.tail _ (.tail _ (.tail _ (.head _))))), hz, kk _ (S.under L0 fun L S => S.addNote v d)⟩
/-! membership, for reading -/
theorem mF : (A.f, HO.ins CF A.dx (flF A)) ∈ FL CF CL CI A ++ L := .head _
theorem mFl : (A.la, HO.lst (A.lots.map fun x => .ref x.a)) ∈ FL CF CL CI A ++ L := .tail _ (.head _)
theorem mFp : (A.pa, HO.lst (A.pcs.map fun P => .ref P.a)) ∈ FL CF CL CI A ++ L := .tail _ (.tail _ (.head _))
theorem mFn : (A.na, HO.lst A.nv) ∈ FL CF CL CI A ++ L := .tail _ (.tail _ (.tail _ (.head _)))
theorem mFlot (h : A.lots[j]? = some x) : (x.a, HO.ins CL x.dx (ltF x.s)) ∈ FL CF CL CI A ++ L := mem_lot h
theorem mFpc (h : A.pcs[k]? = some P) : (P.a, HO.ins CI P.dx (pcF P)) ∈ FL CF CL CI A ++ L := mem_pc h (.head _)
theorem mFpl (h : A.pcs[k]? = some P) : (P.l, HO.dK (lotKV P.s.holds)) ∈ FL CF CL CI A ++ L := mem_pc h (.tail _ (.head _))
theorem mFpp (h : A.pcs[k]? = some P) : (P.p, HO.lst (pcV P.s.holds)) ∈ FL CF CL CI A ++ L := mem_pc h (.tail _ (.tail _ (.head _)))
/-! .. with nothing ahead of it -/
theorem sfdP (S : Ok F B (FL CF CL CI A ++ L) H) (h : A.pcs[k]? = some P) (c : Cls K CI) (na : NoAttr K CI f) (P' : APc) (e : P'.a = P.a ∧ P'.dx = P.dx ∧ P'.l = P.l ∧ P'.p = P.p ∧ P'.s.holds = P.s.holds) (hf : putF f y (pcF P) = pcF P')
    (kk : ∀ H', Ok F B (FL CF CL CI { A with pcs := A.pcs.set k P' } ++ L) H' → D.nx σ H') : SFdQ K f y D σ (.ref P.a) H := sfdPx [] S h c na P' e hf kk
theorem attP (S : Ok F B (FL CF CL CI A ++ L) H) (h : A.pcs[k]? = some P) (c : Cls K CI) (na : NoAttr K CI f) (P' : APc) (e : P'.a = P.a ∧ P'.dx = P.dx ∧ P'.l = P.l ∧ P'.p = P.p ∧ P'.s.holds = P.s.holds) (hf : putF f y (pcF P) = pcF P')
    (kk : ∀ H', Ok F B (FL CF CL CI { A with pcs := A.pcs.set k P' } ++ L) H' → Qg σ H') : AttQ K f y σ Qg (.ref P.a) H := attPx [] S h c na P' e hf kk
theorem afP (S : Ok F B (FL CF CL CI A ++ L) H) (h : A.pcs[k]? = some P) (P' : APc) (e : P'.a = P.a ∧ P'.dx = P.dx ∧ P'.l = P.l ∧ P'.p = P.p ∧ P'.s.holds = P.s.holds) (hf : putF f y (pcF P) = pcF P')
    (kk : ∀ H', Ok F B (FL CF CL CI { A with pcs := A.pcs.set k P' } ++ L) H' → D.nx σ H') : AfQ P.a CI f D σ y H := afPx [] S h P' e hf kk
theorem afL (S : Ok F B (FL CF CL CI A ++ L) H) (h : A.lots[j]? = some x) (s' : Lt) (hf : putF f y (ltF x.s) = ltF s')
    (kk : ∀ H', Ok F B (FL CF CL CI { A with lots := A.lots.set j { x with s := s' } } ++ L) H' → D.nx σ H') : AfQ x.a CL f D σ y H := afLx [] S h s' hf kk
theorem afSpent (S : Ok F B (FL CF CL CI A ++ L) H) {i : Int} (kk : ∀ H', Ok F B (FL CF CL CI { A with spent := i } ++ L) H' → D.nx σ H') : AfQ A.f CF "spent" D σ (.int i) H := afSpentx [] S kk
theorem afLost (S : Ok F B (FL CF CL CI A ++ L) H) {i : Int} (kk : ∀ H', Ok F B (FL CF CL CI { A with lost := i } ++ L) H' → D.nx σ H') : AfQ A.f CF "lost" D σ (.int i) H := afLostx [] S kk
theorem v_note {Pg : Program} {w : World} {Q : VK} {v : V} (d : Deed) (S : Ok F B (FL CF CL CI A ++ L) H) (hz : A.nv.length < sizeLine) (kk : ∀ H', Ok F B (FL CF CL CI { A with nv := A.nv ++ [v], book := A.book ++ [d] } ++ L) H' → Q .non H') : MetU Pg w K "list.append" (.ref A.na) [v] H Q := v_notex [] d S hz kk
theorem mFpcE {a : Addr} (h : A.pcs[k]? = some P) (e : a = P.a) : (a, HO.ins CI P.dx (pcF P)) ∈ FL CF CL CI A ++ L := e ▸ mFpc h
theorem mFplE {a : Addr} (h : A.pcs[k]? = some P) (e : a = P.l) : (a, HO.dK (lotKV P.s.holds)) ∈ FL CF CL CI A ++ L := e ▸ mFpl h
theorem mFppE {a : Addr} (h : A.pcs[k]? = some P) (e : a = P.p) : (a, HO.lst (pcV P.s.holds)) ∈ FL CF CL CI A ++ L := e ▸ mFpp h
end
end WK
namespace WK
open PySem PySem.Spec PyProof.Rows L2 PM
/-- what reads alike in all that comes of an entry -/
def Stays (K : PySem.W.Frag) (F : Ent) (B : Hp) (v : V) (xs : List V) : Prop := ∃ a, v = .ref a ∧ ((∀ B' L H, Ex B B' → Ok F B' L H → SqL K H a xs) ∨ SqT K B a xs)
theorem Stays.ofD {K : PySem.W.Frag} {F : Ent} {B : Hp} {v : V} {is : List Int} (h : Dpl K B v (is.map PyData.int)) : Stays K F B v (is.map V.int) := by
  rcases h with h | h
  · obtain ⟨a, xs, rfl, hq, ha⟩ := Dp.lst_inv h
    rw [ha.ints] at hq
    exact ⟨a, rfl, .inl fun B' L H e S => S.sqB (e.sqL hq)⟩
  · obtain ⟨a, xs, rfl, hq, ha⟩ := Dp.tup_inv h
    rw [ha.ints] at hq
    exact ⟨a, rfl, .inr hq⟩
theorem Stays.ofCell {K : PySem.W.Frag} {B H0 : Hp} {As : List Addr} {a : Addr} {xs : List V} (h : H0 a = some (.lst xs)) (ha : a ∉ As) : Stays K ⟨B, H0, As⟩ B (.ref a) xs :=
  ⟨a, rfl, .inl fun B' L H e S => .inl (.inl (S.keep a _ h ha))⟩
section
variable {P : Program} {w : World} {K : PySem.W.Frag} {H : Hp} {Q : VK} {a : Addr} {z : Str} {zs : List Str}
theorem v_inT (h : SqT K H a (zs.map V.str)) (k : Q (.bl (decide (z ∈ zs))) H) : OpU P w K (compareOp .In) (.str z) (.ref a) H Q :=
  .ofK (r := fun K => rIn K false) (fun _ _ => op_in_seq) ⟨a, _, rfl, .inr h, rfl, flat_strs zs, by rw [if_neg (by decide), inV_strs]; exact k⟩
theorem v_notInT (h : SqT K H a (zs.map V.str)) (k : Q (.bl (!decide (z ∈ zs))) H) : OpU P w K (compareOp .NotIn) (.str z) (.ref a) H Q :=
  .ofK (r := fun K => rIn K true) (fun _ _ => op_notIn_seq) ⟨a, _, rfl, .inr h, rfl, flat_strs zs, by rw [if_pos rfl, inV_strs]; exact k⟩
end
end WK
namespace WK
open PySem PySem.Spec PyProof.Rows L2 PM
section
variable {F : Ent} {B H : Hp} {L : Led} {CF CL CI : Addr} {A : AFl}
theorem Ok.nil1 (S : Ok F B L H) : Ok F B (L ++ []) H := by rw [List.append_nil]; exact S
theorem Ok.nil2 (S : Ok F B (L ++ []) H) : Ok F B L H := by rw [List.append_nil] at S; exact S
/-- a new lot in the list -/
theorem Ok.addLot {x : ALot} (S : Ok F B (lotC CL x :: (FL CF CL CI A ++ L)) H) : Ok F B (FL CF CL CI { A with lots := A.lots ++ [x] } ++ L) (upd H A.la (.lst ((A.lots.map fun x => .ref x.a) ++ [.ref x.a]))) := by
  have S1 : Ok F B _ (upd H A.la (.lst ((A.lots.map fun x => .ref x.a) ++ [.ref x.a]))) := S.mutN 2 (p := A.la) (o := .lst (A.lots.map fun x => .ref x.a)) (o' := .lst ((A.lots.map fun x => .ref x.a) ++ [.ref x.a])) rfl
  refine S1.perm ?_
  unfold FL
  dsimp only
  rw [List.map_append, List.map_append]
  show List.Perm (lotC CL x :: (A.f, _) :: (A.la, _) :: (A.pa, _) :: (A.na, _) :: ((A.lots.map (lotC CL) ++ A.pcs.flatMap (pcC CI)) ++ L)) ((A.f, _) :: (A.la, _) :: (A.pa, _) :: (A.na, _) :: (((A.lots.map (lotC CL) ++ [lotC CL x]) ++ A.pcs.flatMap (pcC CI)) ++ L))
  have e : ∀ (p q r s : Addr × HO) (X Y Z : Led) (c : Addr × HO), List.Perm (c :: p :: q :: r :: s :: ((X ++ Y) ++ Z)) (p :: q :: r :: s :: (((X ++ [c]) ++ Y) ++ Z)) := fun p q r s X Y Z c => by
    have h := (List.perm_middle (a := c) (l₁ := p :: q :: r :: s :: X) (l₂ := Y ++ Z)).symm
    simpa [List.append_assoc] using h
  exact e _ _ _ _ _ _ _ _
theorem Ok.addPc {P : APc} (S : Ok F B (pcC CI P ++ (FL CF CL CI A ++ L)) H) : Ok F B (FL CF CL CI { A with pcs := A.pcs ++ [P] } ++ L) (upd H A.pa (.lst ((A.pcs.map fun P => .ref P.a) ++ [.ref P.a]))) := by
  have S1 : Ok F B _ (upd H A.pa (.lst ((A.pcs.map fun P => .ref P.a) ++ [.ref P.a]))) := S.mutN 5 (p := A.pa) (o := .lst (A.pcs.map fun P => .ref P.a)) (o' := .lst ((A.pcs.map fun P => .ref P.a) ++ [.ref P.a])) rfl
  refine S1.perm ?_
  unfold FL
  dsimp only
  rw [List.map_append, List.flatMap_append, List.flatMap_cons, List.flatMap_nil, List.append_nil]
  show List.Perm (pcC CI P ++ ((A.f, _) :: (A.la, _) :: (A.pa, _) :: (A.na, _) :: ((A.lots.map (lotC CL) ++ A.pcs.flatMap (pcC CI)) ++ L))) ((A.f, _) :: (A.la, _) :: (A.pa, _) :: (A.na, _) :: ((A.lots.map (lotC CL) ++ (A.pcs.flatMap (pcC CI) ++ pcC CI P)) ++ L))
  have e : ∀ (p q r s : Addr × HO) (X Y Z C : Led), List.Perm (C ++ (p :: q :: r :: s :: ((X ++ Y) ++ Z))) (p :: q :: r :: s :: ((X ++ (Y ++ C)) ++ Z)) := fun p q r s X Y Z C => by
    have h := List.Perm.append_right Z (List.perm_append_comm (l₁ := C) (l₂ := p :: q :: r :: s :: (X ++ Y)))
    simpa [List.append_assoc] using h
  exact e _ _ _ _ _ _ _ _
end
end WK
namespace WK
open PySem PySem.Spec PyProof.Rows L2 PM
/-- a tuple behind a tuple -/
theorem v_catT {P : Program} {w : World} {K : PySem.W.Frag} {F : Ent} {B H : Hp} {L : Led} {Q : VK} {a b : Addr} {xs ys : List V} (S : Ok F B L H) (h1 : SqT K H a xs) (h2 : SqT K H b ys) (n1 : xs ≠ []) (n2 : ys ≠ []) (hz : xs.length + ys.length ≤ sizeLine)
    (k : ∀ p B' H', Ex B B' → B' p = some (.tup (xs ++ ys)) → Ok F B' L H' → Q (.ref p) H') : OpU P w K (binaryOp .Add) (.ref a) (.ref b) H Q := by
  exact .ofK (r := rCatT) (fun _ _ => op_catT) ⟨a, b, xs, ys, rfl, rfl, h1, h2, n1, hz, fun e => absurd e n2, fun _ p hp => k p _ _ (S.exB hp) upd_same (S.newB hp)⟩
end WK
namespace WK
open PySem PySem.Spec PyProof.Rows L2 PM
/-- enumerate(a list of one's own) -/
theorem src_enumO {α : Type} {K : PySem.W.Frag} {a : Addr} (g : α → V) (as : List α) : Src (Ite K a) (fun _ L => (a, HO.lst (as.map g)) ∈ L) as.zipIdx (fun B x y => ∃ T, x = .ref T ∧ B T = some (.tup [.int (y.2 : Nat), g y.1])) := by
  have hl : (as.map g).length = as.length := List.length_map _
  refine ⟨_, _, (by rw [List.length_zipIdx]; exact hl ▸ walk_enum (K := K) (a := a) (xs := as.map g)), fun F B L H S gm => S.sqMem gm, fun F B L i H x H' S gm y hi => ?_⟩
  obtain ⟨T, x', y', rfl, n, rfl, e1, e2⟩ := y
  cases e1
  dsimp only at e2
  rw [List.getElem?_map] at e2
  cases e : as[i]? with
  | none => rw [e] at e2; cases e2
  | some z =>
    rw [e] at e2
    cases e2
    exact ⟨(z, i), upd B T (.tup [.int (i : Nat), g z]), getElem_zipIdx e, S.exB n, S.newB n, T, rfl, upd_same⟩
theorem enuO {K : PySem.W.Frag} {F : Ent} {B H : Hp} {L : Led} {R : It → Hp → Prop} {a : Addr} {xs : List V} (S : Ok F B L H) (h : (a, HO.lst xs) ∈ L) (k : R (Ite K a) H) : EnvQ K R [.ref a] H := ⟨a, xs, rfl, .inl ⟨S.sqMem h, k⟩⟩
section
variable {F : Ent} {B H : Hp} {L : Led} {CF CL CI : Addr} {A : AFl} {P : APc} {k : Nat}
theorem Ok.pcCells (S : Ok F B (FL CF CL CI A ++ L) H) (h : A.pcs[k]? = some P) (P' : APc) (e1 : P'.a = P.a) {p : Addr} {o o' : HO} {X Y X' Y' : Led} (hc : pcC CI P = X ++ (p, o) :: Y) (hc' : pcC CI P' = X ++ (p, o') :: Y) :
    Ok F B (FL CF CL CI { A with pcs := A.pcs.set k P' } ++ L) (upd H p o') := by
  obtain ⟨l1, l2, hl, hk, hs⟩ := at_split h
  have hF : FL CF CL CI A ++ L = ((A.f, HO.ins CF A.dx (WK.flF A)) :: (A.la, .lst (A.lots.map fun x => .ref x.a)) :: (A.pa, .lst (A.pcs.map fun P => .ref P.a)) :: (A.na, .lst A.nv) :: (A.lots.map (lotC CL) ++ (l1.flatMap (pcC CI) ++ X))) ++ (p, o) :: (Y ++ (l2.flatMap (pcC CI) ++ L)) := by
    unfold FL
    rw [hl]
    simp only [List.flatMap_append, List.flatMap_cons, List.append_assoc, List.cons_append, hc]
  have hr : (A.pcs.set k P').map (fun P => V.ref P.a) = A.pcs.map fun P => V.ref P.a := by
    rw [hs P', hl, List.map_append, List.map_append, List.map_cons, List.map_cons, e1]
  have hF' : FL CF CL CI { A with pcs := A.pcs.set k P' } ++ L = ((A.f, HO.ins CF A.dx (WK.flF A)) :: (A.la, .lst (A.lots.map fun x => .ref x.a)) :: (A.pa, .lst (A.pcs.map fun P => .ref P.a)) :: (A.na, .lst A.nv) :: (A.lots.map (lotC CL) ++ (l1.flatMap (pcC CI) ++ X))) ++ (p, o') :: (Y ++ (l2.flatMap (pcC CI) ++ L)) := by
    unfold FL
    dsimp only
    rw [hr, hs P', hl]
    simp only [List.flatMap_append, List.flatMap_cons, List.append_assoc, List.cons_append, hc']
  rw [hF']
  rw [hF] at S
  exact S.mutAt
theorem lotKV_app (a b : List Hold) : lotKV (a ++ b) = lotKV a ++ lotKV b := by
  unfold lotKV
  rw [lotsOf_app, List.map_append]
theorem pcV_app (a b : List Hold) : pcV (a ++ b) = pcV a ++ pcV b := by
  unfold pcV
  rw [pcsOf_app, List.map_append]
abbrev APc.hold (P : APc) (h : Hold) : APc := { P with s := { P.s with holds := P.s.holds ++ [h] } }
theorem Ok.holdPc (S : Ok F B (FL CF CL CI A ++ L) H) (h : A.pcs[k]? = some P) (k1 : Nat) : Ok F B (FL CF CL CI { A with pcs := A.pcs.set k (P.hold (.pc k1)) } ++ L) (upd H P.p (.lst (pcV P.s.holds ++ [.int (k1 : Int)]))) := by
  refine S.pcCells h (P.hold (.pc k1)) rfl (X := [pcI CI P, pcL P]) (Y := []) (o := .lst (pcV P.s.holds)) (X' := []) (Y' := []) rfl ?_
  unfold pcC pcL pcP
  show [pcI CI P, (P.l, HO.dK (lotKV (P.s.holds ++ [.pc k1]))), (P.p, HO.lst (pcV (P.s.holds ++ [.pc k1])))] = _
  rw [lotKV_app, pcV_app]
  show [pcI CI P, (P.l, HO.dK (lotKV P.s.holds ++ [])), (P.p, HO.lst (pcV P.s.holds ++ [.int (k1 : Int)]))] = _
  rw [List.append_nil]
  rfl
theorem Ok.holdLot (S : Ok F B (FL CF CL CI A ++ L) H) (h : A.pcs[k]? = some P) (j : Nat) (m : Int) : Ok F B (FL CF CL CI { A with pcs := A.pcs.set k (P.hold (.lot j m)) } ++ L) (upd H P.l (.dK (lotKV P.s.holds ++ [(.inl (j : Int), .int m)]))) := by
  refine S.pcCells h (P.hold (.lot j m)) rfl (X := [pcI CI P]) (Y := [pcP P]) (o := .dK (lotKV P.s.holds)) (X' := []) (Y' := []) rfl ?_
  unfold pcC pcL pcP
  show [pcI CI P, (P.l, HO.dK (lotKV (P.s.holds ++ [.lot j m]))), (P.p, HO.lst (pcV (P.s.holds ++ [.lot j m])))] = _
  rw [lotKV_app, pcV_app]
  show [pcI CI P, (P.l, HO.dK (lotKV P.s.holds ++ [(.inl (j : Int), .int m)])), (P.p, HO.lst (pcV P.s.holds ++ []))] = _
  rw [List.append_nil]
  rfl
end
end WK
namespace WK
open PySem PySem.Spec PyProof.Rows L2 PM
section
variable {Pg : Program} {w : World} {K : PySem.W.Frag} {Q : VK} {F : Ent} {B H : Hp} {L : Led} {CF CL CI : Addr} {A : AFl} {P : APc} {k : Nat}
theorem v_addLot {x : ALot} (S : Ok F B (lotC CL x :: (FL CF CL CI A ++ L)) H) (hz : A.lots.length < sizeLine) (kk : ∀ H', Ok F B (FL CF CL CI { A with lots := A.lots ++ [x] } ++ L) H' → Q .non H') : MetU Pg w K "list.append" (.ref A.la) [.ref x.a] H Q :=
  .of (fun _ _ => mt_append) ⟨A.la, _, .ref x.a, rfl, rfl, S.mem (.tail _ mFl), by rw [List.length_map]; exact hz, kk _ S.addLot⟩
theorem v_addPc (S : Ok F B (pcC CI P ++ (FL CF CL CI A ++ L)) H) (hz : A.pcs.length < sizeLine) (kk : ∀ H', Ok F B (FL CF CL CI { A with pcs := A.pcs ++ [P] } ++ L) H' → Q .non H') : MetU Pg w K "list.append" (.ref A.pa) [.ref P.a] H Q :=
  .of (fun _ _ => mt_append) ⟨A.pa, _, .ref P.a, rfl, rfl, S.mem (.tail _ (.tail _ (.tail _ mFp))), by rw [List.length_map]; exact hz, kk _ S.addPc⟩
theorem v_holdPc (S : Ok F B (FL CF CL CI A ++ L) H) (h : A.pcs[k]? = some P) (hz : P.s.holds.length < 10000) (k1 : Nat) (kk : ∀ H', Ok F B (FL CF CL CI { A with pcs := A.pcs.set k (P.hold (.pc k1)) } ++ L) H' → Q .non H') : MetU Pg w K "list.append" (.ref P.p) [.int (k1 : Int)] H Q :=
  .of (fun _ _ => mt_append) ⟨P.p, _, .int (k1 : Int), rfl, rfl, S.mem (mFpp h), by
    have : (pcV P.s.holds).length ≤ P.s.holds.length := by unfold pcV pcsOf; rw [List.length_map]; exact List.length_filterMap_le ..
    rw [sizeLine_eq]; omega, kk _ (S.holdPc h k1)⟩
theorem v_holdLot {Q : Hp → Prop} (S : Ok F B (FL CF CL CI A ++ L) H) (h : A.pcs[k]? = some P) (hz : P.s.holds.length < 10000) (j : Nat) (m : Int) (hn : ∀ m', Hold.lot j m' ∉ P.s.holds) (kk : ∀ H', Ok F B (FL CF CL CI { A with pcs := A.pcs.set k (P.hold (.lot j m)) } ++ L) H' → Q H') : SetU Pg w K (.ref P.l) (.int (j : Int)) (.int m) H Q := by
  have hl : (lotKV P.s.holds).length ≤ P.s.holds.length := by unfold lotKV lotsOf; rw [List.length_map]; exact List.length_filterMap_le ..
  refine v_setD (DPut.k (k := .inl (j : Int)) (S.mem (mFpl h)) (by rw [sizeLine_eq]; omega)) ?_
  have hv : valV (lotKV P.s.holds) (.inl (j : Int)) = none := valV_none fun hm => by
    obtain ⟨x, hx, e⟩ := List.mem_map.mp hm
    unfold lotKV lotsOf at hx
    obtain ⟨y, hy, rfl⟩ := List.mem_map.mp hx
    obtain ⟨q, hq, eq⟩ := List.mem_filterMap.mp hy
    cases q with
    | pc c => cases eq
    | lot j' m' =>
      cases eq
      have : ((j' : Nat) : Int) = (j : Int) := Sum.inl.inj e
      have e2 : j' = j := by omega
      subst e2
      exact hn _ hq
  rw [putK_new _ hv]
  exact kk _ (S.holdLot h j m)
end
end WK

namespace PM
open PySem L2 WK
def lotHolds (xs : List (Nat × Int)) : List Hold := xs.map fun x => .lot x.1 x.2
def pcHolds (ks : List Nat) : List Hold := ks.map .pc
def isBought (rs : List PRow) (z : Str) : Bool := match rowOf rs z with | some r => r.needs.isEmpty && r.steps.isEmpty | none => false
/-- what is taken of one need -/
def Fl.taken (fs : Fl) (z : Str) (m : Int) : Option (List Hold) :=
  if isBought fs.rs z then (if (takeLots fs.lots z m).2 = 0 then some (lotHolds (takeLots fs.lots z m).1) else none)
  else if m.toNat ≤ (stockOf fs.pcs z).length then some (pcHolds ((stockOf fs.pcs z).take m.toNat)) else none
def Fl.giveAll (fs : Fl) (k0 : Nat) (hs : List Hold) : Fl := hs.foldl (fun s h => s.give k0 h) fs
theorem giveAll_app (fs : Fl) (k0 : Nat) (a b : List Hold) : fs.giveAll k0 (a ++ b) = (fs.giveAll k0 a).giveAll k0 b := List.foldl_append
/-- a piece begun, holding these -/
def Fl.begin_ (fs : Fl) (z : Str) (noSteps : Bool) (hs : List Hold) : Fl :=
  let f1 := { fs with pcs := fs.pcs ++ [newPc z] }.giveAll fs.pcs.length hs
  { f1 with pcs := if noSteps = true then f1.pcs.modify fs.pcs.length (fun p => { p with state := "made" }) else f1.pcs, book := f1.book ++ [.begin_ z] }
/-- what may be put into a piece -/
structure GiveOk (nl np k0 : Nat) (old hs : List Hold) : Prop where
  pc : ∀ k, Hold.pc k ∈ hs → k < np ∧ k ≠ k0
  lot : ∀ j m, Hold.lot j m ∈ hs → j < nl ∧ 0 ≤ m ∧ m < 1000
  nd : ((old ++ hs).filterMap fun h => match h with | .lot j _ => some j | .pc _ => none).Nodup
  len : old.length + hs.length < 10000
theorem GiveOk.head {nl np k0 : Nat} {old hs : List Hold} {h : Hold} (g : GiveOk nl np k0 old (h :: hs)) : GiveOk nl np k0 (old ++ [h]) hs where
  pc := fun k hk => g.pc k (.tail _ hk)
  lot := fun j m hk => g.lot j m (.tail _ hk)
  nd := by have := g.nd; rw [show old ++ h :: hs = (old ++ [h]) ++ hs by simp] at this; exact this
  len := by have := g.len; rw [List.length_append]; simp at this ⊢; omega
theorem GiveOk.app {nl np k0 : Nat} {old a b : List Hold} (g : GiveOk nl np k0 old (a ++ b)) : GiveOk nl np k0 old a ∧ GiveOk nl np k0 (old ++ a) b := by
  refine ⟨⟨fun k hk => g.pc k (List.mem_append_left _ hk), fun j m hk => g.lot j m (List.mem_append_left _ hk), ?_, ?_⟩, ⟨fun k hk => g.pc k (List.mem_append_right _ hk), fun j m hk => g.lot j m (List.mem_append_right _ hk), ?_, ?_⟩⟩
  · have := g.nd
    rw [← List.append_assoc, List.filterMap_append, List.nodup_append] at this
    exact this.1
  · have := g.len; rw [List.length_append] at this; omega
  · have := g.nd
    rwa [← List.append_assoc] at this
  · have := g.len; rw [List.length_append] at this ⊢; omega
theorem GiveOk.fresh {nl np k0 : Nat} {old hs : List Hold} {j : Nat} {m : Int} (g : GiveOk nl np k0 old (.lot j m :: hs)) : ∀ m', Hold.lot j m' ∉ old := fun m' hm => by
  have := g.nd
  rw [List.filterMap_append, List.nodup_append] at this
  exact this.2.2 j (List.mem_filterMap.mpr ⟨_, hm, rfl⟩) j (List.mem_filterMap.mpr ⟨_, .head _, rfl⟩) rfl
theorem give_pc {fs : Fl} {k0 k1 : Nat} {p q : Pc} (h0 : fs.pcs[k0]? = some p) (h1 : fs.pcs[k1]? = some q) (_ : k1 ≠ k0) : (fs.give k0 (.pc k1)).pcs[k0]? = some { p with holds := p.holds ++ [.pc k1], cost := p.cost + q.cost } := by
  unfold Fl.give
  dsimp only
  rw [h1, h0]
  exact List.getElem?_set_self (by rw [List.length_set]; exact (List.getElem?_eq_some_iff.mp h0).1)
end PM

namespace WK
open PySem PySem.Spec PyProof.Rows L2
theorem v_isiFD {P : Program} {w : World} {K : PySem.W.Frag} {H : Hp} {Q : VK} {a : Addr} {o : Obj} {kvs : List (Key × V)} {T : String} (h : H a = some (.frz o (.dK kvs))) (hT : T ∈ kTypes) (k : Q (.bl (isT "dict" T)) H) : CallU P w K (.builtin "isinstance") [.ref a, .ty T] H Q := by
  have key : ∀ b ∈ kTypes, kitB "dict" b = some (isT "dict" b) := by decide +kernel
  exact .ofK (r := rIsi) (fun _ _ => call_isi) ⟨.ref a, .ty T, .type "dict", .type T, _, rfl, .ty T, .fDict h, kit_ty (key T hT), k⟩
end WK
namespace WK
open PySem PySem.Spec PyProof.Rows L2 PM
theorem lotKV_none {hs : List Hold} {j : Nat} (hn : ∀ m', Hold.lot j m' ∉ hs) : valV (lotKV hs) (.inl (j : Int)) = none := valV_none fun hm => by
  obtain ⟨x, hx, e⟩ := List.mem_map.mp hm
  unfold lotKV lotsOf at hx
  obtain ⟨y, hy, rfl⟩ := List.mem_map.mp hx
  obtain ⟨q, hq, eq⟩ := List.mem_filterMap.mp hy
  cases q with
  | pc c => cases eq
  | lot j' m' =>
    cases eq
    have : ((j' : Nat) : Int) = (j : Int) := Sum.inl.inj e
    have e2 : j' = j := by omega
    subst e2
    exact hn _ hq
end WK
namespace WK
open PySem PySem.Spec PyProof.Rows L2 PM
theorem src_lstV {K : PySem.W.Frag} {a : Addr} {xs : List V} : Src (Itl K a) (fun B _ => SqL K B a xs) xs (fun _ x y => x = y) :=
  ⟨_, _, walk_list (xs := xs), fun F B L H S g => S.sqB g, fun F B L i H x H' S g y hi => by
    obtain ⟨rfl, y⟩ := y
    exact ⟨x, B, y, Ex.refl _, S, rfl⟩⟩
theorem giveAll_frame (k0 : Nat) : ∀ (hs : List Hold) (fs : Fl), (fs.giveAll k0 hs).rs = fs.rs ∧ (fs.giveAll k0 hs).rates = fs.rates ∧ (fs.giveAll k0 hs).book = fs.book ∧ (fs.giveAll k0 hs).spent = fs.spent ∧ (fs.giveAll k0 hs).lost = fs.lost
  | [], fs => ⟨rfl, rfl, rfl, rfl, rfl⟩
  | h :: hs, fs => by
    have ih := giveAll_frame k0 hs (fs.give k0 h)
    have e : (fs.give k0 h).rs = fs.rs ∧ (fs.give k0 h).rates = fs.rates ∧ (fs.give k0 h).book = fs.book ∧ (fs.give k0 h).spent = fs.spent ∧ (fs.give k0 h).lost = fs.lost := by
      unfold Fl.give
      cases h with
      | lot j m =>
        dsimp only
        cases fs.lots[j]? <;> cases fs.pcs[k0]? <;> exact ⟨rfl, rfl, rfl, rfl, rfl⟩
      | pc k =>
        dsimp only
        cases fs.pcs[k]? <;> cases fs.pcs[k0]? <;> exact ⟨rfl, rfl, rfl, rfl, rfl⟩
    show ((fs.give k0 h).giveAll k0 hs).rs = _ ∧ _
    rw [ih.1, e.1]
    exact ⟨rfl, ih.2.1.trans e.2.1, ih.2.2.1.trans e.2.2.1, ih.2.2.2.1.trans e.2.2.2.1, ih.2.2.2.2.trans e.2.2.2.2⟩
end WK

namespace WK
open PySem PySem.Spec PyProof.Rows L2 PM
theorem src_lstO {α : Type} {K : PySem.W.Frag} {a : Addr} (g : α → V) (as : List α) : Src (Itl K a) (fun _ L => (a, HO.lst (as.map g)) ∈ L) as (fun _ x y => x = g y) := by
  have hl : (as.map g).length = as.length := List.length_map _
  refine ⟨_, _, (hl ▸ walk_list (xs := as.map g)), fun F B L H S gm => S.sqMem gm, fun F B L i H x H' S gm y hi => ?_⟩
  obtain ⟨rfl, y⟩ := y
  rw [List.getElem?_map] at y
  obtain ⟨q, hq, e⟩ := Option.map_eq_some_iff.mp y
  exact ⟨q, B, hq, Ex.refl _, S, e.symm⟩
/-- a comprehension of things: how many -/
theorem lcCount {α : Type} {J : It} {GB : Hp → Led → Prop} {as : List α} {R : Hp → V → α → Prop} {F : Ent} {B H1 : Hp} {L : Led} {σ : L2.St} (src : Src J GB as R) {g : TG} {tt : TT} {te : TE} {vs : List Nat} {Q : VK} (S : Ok F B L H1) (hGB : ∀ B1 D acc, Ex B B1 → GB B1 ((D, .lst acc) :: L)) (keep : α → Bool) (hz : as.length ≤ 100000)
    (hs : ∀ a x B1 D acc H1 (C : VK) (Cs : Hp → Prop), a ∈ as → Ex B B1 → Ok F B1 ((D, .lst acc) :: L) H1 → R B1 x a →
      (∀ y H4 B2, keep a = true → Ex B1 B2 → Ok F B2 ((D, .lst acc) :: L) H4 → C y H4) → (∀ H3 B2, keep a = false → Ex B1 B2 → Ok F B2 ((D, .lst acc) :: L) H3 → Cs H3) →
      g x (wipe σ vs) H1 fun σ2 H2 => wipe σ2 vs = wipe σ vs ∧ tt σ2 H2 fun b H3 => if b = true then te σ2 H3 C else Cs H3)
    (hd : ∀ D acc B1 H1, Ex B B1 → Ok F B1 ((D, .lst acc) :: L) H1 → acc.length = (as.filter keep).length → Q (.ref D) H1) : LcW g tt te vs σ Q J H1 := by
  refine lcD src S (fun i acc B1 L1 => L1 = L ∧ Ex B B1 ∧ acc.length = ((as.take i).filter keep).length) ⟨rfl, Ex.refl _, rfl⟩ ?_ ?_ ?_
  · rintro i acc B1 L1 D _ ⟨rfl, e, _⟩
    exact hGB B1 D acc e
  · rintro i a x acc B0 B1 L1 D H1 ha ⟨rfl, e, hd⟩ e1 S1 r
    have hm : a ∈ as := List.mem_of_getElem? ha
    have hlen : acc.length ≤ i := by
      have h2 := List.length_filter_le keep (as.take i)
      rw [List.length_take] at h2
      omega
    have hi : i < as.length := (List.getElem?_eq_some_iff.mp ha).1
    have et : as.take (i + 1) = as.take i ++ [a] := by rw [List.take_add_one, ha]; rfl
    refine hs a x B1 D acc H1 _ _ hm (e.trans e1) S1 r (fun y H4 B2 hk e2 S2 => ?_) (fun H3 B2 hk e2 S2 => ?_)
    · refine Acc.mk S2 (by rw [sizeLine_eq]; omega) ⟨rfl, (e.trans e1).trans e2, ?_⟩
      rw [et, List.filter_append, List.length_append, List.length_append]
      have : [a].filter keep = [a] := by simp [hk]
      rw [this, hd]
      rfl
    · refine Skp.mk S2 ⟨rfl, (e.trans e1).trans e2, ?_⟩
      rw [et, List.filter_append]
      have : [a].filter keep = [] := by simp [hk]
      rw [this, List.append_nil]
      exact hd
  · rintro acc B1 L1 D H1 ⟨rfl, e, hd'⟩ S1
    rw [List.take_length] at hd'
    exact hd D acc B1 H1 e S1 hd'
end WK
namespace WK
open PySem PySem.Spec PyProof.Rows L2
theorem call_int_blR {X : Cx} : CallR X (.type "int") (fun xs H Q => ∃ b, xs = [.bl b] ∧ Q (.int (if b = true then 1 else 0)) H) := by
  intro pins s σ H xs us Q I rs h
  obtain ⟨b, rfl, h⟩ := h
  cases rs with
  | cons r1 rs =>
    cases rs
    obtain rfl := r1
    exact PySem.call_int_bool ⟨.int _, H, I.tok _, ⟨_, rfl⟩, h⟩
/-- int(bool) -/
theorem v_intBl {P : Program} {w : World} {K : PySem.W.Frag} {H : Hp} {Q : VK} {b : Bool} (k : Q (.int (if b = true then 1 else 0)) H) : CallU P w K (.type "int") [.bl b] H Q :=
  .of (fun _ _ => call_int_blR) ⟨b, rfl, k⟩
end WK

/-! a book as text -/
namespace PM
open PySem L2 WK
abbrev spc : Str := " "
abbrev nlS : Str := "\n"
def partLine (r : PRow) : Str := Txt.join spc ["part", r.name, numS r.lot, numS r.lead]
def needLine (x : Str × Int) : Str := Txt.join spc ["need", x.1, numS x.2]
def stepLine (x : Int × Int) : Str := Txt.join spc ["step", numS x.1, numS x.2]
def rowLines (r : PRow) : List Str := partLine r :: (r.needs.map needLine ++ r.steps.map stepLine)
def textOf (rs : List PRow) : Str := Txt.join nlS (rs.flatMap rowLines)
theorem numS_len : ∀ k : Fin 100, (numS (k.val : Int)).length ≤ 2 := by decide +kernel
theorem numS_le {i : Int} (h0 : 0 ≤ i) (h1 : i < 100) : (numS i).length ≤ 2 := by
  have := numS_len ⟨i.toNat, by omega⟩
  rwa [show ((i.toNat : Nat) : Int) = i by omega] at this
theorem log2_small {i : Int} (h0 : 0 ≤ i) (h1 : i < 100) : i.natAbs.log2 < 1920 := by
  have h2 : i.natAbs < 2 ^ 1920 := Nat.lt_of_lt_of_le (show i.natAbs < 2 ^ 7 by omega) (Nat.pow_le_pow_right (by decide) (by decide))
  by_cases hz : i.natAbs = 0
  · rw [hz]; decide
  · exact (Nat.log2_lt hz).mpr h2
theorem join3_len {a b c : Str} {n : Nat} (h : a.length + b.length + c.length ≤ n) : (Txt.join spc [a, b, c]).length ≤ n + 3 := by
  have h1 := StrLaws.join_length_le spc [a, b, c]
  rw [← StrLaws.glued_eq_join] at h1; change (Txt.join spc _).length ≤ _ at h1
  simp only [List.map_cons, List.map_nil, List.sum_cons, List.sum_nil, List.length_cons, List.length_nil] at h1
  have : spc.length = 1 := rfl
  rw [this] at h1
  omega
theorem join4_len {a b c d : Str} {n : Nat} (h : a.length + b.length + c.length + d.length ≤ n) : (Txt.join spc [a, b, c, d]).length ≤ n + 4 := by
  have h1 := StrLaws.join_length_le spc [a, b, c, d]
  rw [← StrLaws.glued_eq_join] at h1; change (Txt.join spc _).length ≤ _ at h1
  simp only [List.map_cons, List.map_nil, List.sum_cons, List.sum_nil, List.length_cons, List.length_nil] at h1
  have : spc.length = 1 := rfl
  rw [this] at h1
  omega
theorem name_len {z : Str} (h : isNameM z = true) : z.length ≤ 8 := by
  unfold isNameM at h
  simp only [Bool.and_eq_true, decide_eq_true_eq] at h
  omega
end PM
namespace PM
open PySem L2 WK
section
variable {names : List Str} {r : PRow}
theorem part_sum (R : GoodRow names r) : ((["part", r.name, numS r.lot, numS r.lead] : List Str).map (·.length)).sum + ([("part" : Str), r.name, numS r.lot, numS r.lead] : List Str).length * spc.length ≤ 16777216 := by
  have h1 := name_len R.nm
  have h2 := numS_le (i := r.lot) (by have := R.lot; omega) (by have := R.lot; omega)
  have h3 := numS_le (i := r.lead) (by have := R.lead; omega) (by have := R.lead; omega)
  simp only [List.map_cons, List.map_nil, List.sum_cons, List.sum_nil, List.length_cons, List.length_nil]
  have e1 : ("part" : Str).length = 4 := rfl
  have e2 : spc.length = 1 := rfl
  omega
theorem lines_len (R : GoodRow names r) (hn : r.needs.length ≤ 12) : (rowLines r).length ≤ 18 := by
  have := R.few
  unfold rowLines
  rw [List.length_cons, List.length_append, List.length_map, List.length_map]
  omega
end
theorem flat_len {rs : List PRow} (h : ∀ r ∈ rs, (rowLines r).length ≤ 18) : (rs.flatMap rowLines).length ≤ 18 * rs.length := by
  induction rs with
  | nil => exact Nat.le_refl _
  | cons r rs ih =>
    have h1 := h r (.head _)
    have h2 := ih fun x hx => h x (.tail _ hx)
    rw [List.flatMap_cons, List.length_append, List.length_cons]
    omega
theorem GoodBook.lines18 {rs : List PRow} (G : GoodBook rs) : ∀ r ∈ rs, (rowLines r).length ≤ 18 := by
  intro r hr
  obtain ⟨j, hj⟩ := List.getElem?_of_mem hr
  have R := G.row j r hj
  refine lines_len R ?_
  have := nodup_sub_length R.nd (l' := (rs.take j).map (·.name)) (by
    intro x hx
    obtain ⟨y, hy, rfl⟩ := List.mem_map.mp hx
    exact R.known y hy)
  rw [List.length_map, List.length_map, List.length_take] at this
  have := G.len
  omega
theorem need_sum {rs : List PRow} {i : Nat} {r : PRow} {x : Str × Int} (hk : x.1 ∈ (rs.take i).map (·.name)) (m1 : 1 ≤ x.2) (m2 : x.2 ≤ 9) (G : GoodBook rs) (_ : rs[i]? = some r) : ((["need", x.1, numS x.2] : List Str).map (·.length)).sum + ([("need" : Str), x.1, numS x.2] : List Str).length * spc.length ≤ 16777216 := by
  obtain ⟨q, hq, e⟩ := List.mem_map.mp hk
  obtain ⟨j, hj⟩ := List.getElem?_of_mem (List.mem_of_mem_take hq)
  have h1 := name_len (G.row j q hj).nm
  rw [e] at h1
  have h2 := numS_le (i := x.2) (by omega) (by omega)
  simp only [List.map_cons, List.map_nil, List.sum_cons, List.sum_nil, List.length_cons, List.length_nil]
  have e1 : ("need" : Str).length = 4 := rfl
  have e2 : spc.length = 1 := rfl
  omega
theorem step_sum {x : Int × Int} (h : (0 ≤ x.1 ∧ x.1 < 6) ∧ 1 ≤ x.2 ∧ x.2 ≤ 99) : ((["step", numS x.1, numS x.2] : List Str).map (·.length)).sum + ([("step" : Str), numS x.1, numS x.2] : List Str).length * spc.length ≤ 16777216 := by
  have h1 := numS_le (i := x.1) (by omega) (by omega)
  have h2 := numS_le (i := x.2) (by omega) (by omega)
  simp only [List.map_cons, List.map_nil, List.sum_cons, List.sum_nil, List.length_cons, List.length_nil]
  have e1 : ("step" : Str).length = 4 := rfl
  have e2 : spc.length = 1 := rfl
  omega
theorem line3 {a b c : Str} (ha : a.length ≤ 4) (hb : b.length ≤ 8) (hc : c.length ≤ 2) : (Txt.join spc [a, b, c]).length ≤ 20 := Nat.le_trans (join3_len (n := 14) (by omega)) (by decide)
theorem GoodBook.line_len {rs : List PRow} (G : GoodBook rs) : ∀ y ∈ rs.flatMap rowLines, y.length ≤ 20 := by
  intro y hy
  obtain ⟨r, hr, hy⟩ := List.mem_flatMap.mp hy
  obtain ⟨j, hj⟩ := List.getElem?_of_mem hr
  have R := G.row j r hj
  rcases List.mem_cons.mp hy with rfl | hy
  · have h1 := name_len R.nm
    have h2 := numS_le (i := r.lot) (by have := R.lot; omega) (by have := R.lot; omega)
    have h3 := numS_le (i := r.lead) (by have := R.lead; omega) (by have := R.lead; omega)
    have e1 : ("part" : Str).length = 4 := rfl
    exact Nat.le_trans (join4_len (n := 16) (by omega)) (by decide)
  · rcases List.mem_append.mp hy with hy | hy
    · obtain ⟨x, hx, rfl⟩ := List.mem_map.mp hy
      obtain ⟨q, hq, e⟩ := List.mem_map.mp (R.known x hx)
      obtain ⟨i, hi⟩ := List.getElem?_of_mem (List.mem_of_mem_take hq)
      have h1 := name_len (G.row i q hi).nm
      rw [e] at h1
      have := R.many x hx
      exact line3 (by decide) h1 (numS_le (by omega) (by omega))
    · obtain ⟨x, hx, rfl⟩ := List.mem_map.mp hy
      obtain ⟨⟨m1, m2⟩, m3, m4⟩ := R.steps x hx
      exact line3 (by decide) (Nat.le_trans (numS_le (by omega) (by omega)) (by decide)) (numS_le (by omega) (by omega))
theorem sum_len {ys : List Str} {n : Nat} (h : ∀ y ∈ ys, y.length ≤ n) : (ys.map (·.length)).sum ≤ n * ys.length := by
  induction ys with
  | nil => exact Nat.le_refl _
  | cons y ys ih =>
    have h1 := h y (.head _)
    have h2 := ih fun x hx => h x (.tail _ hx)
    rw [List.map_cons, List.sum_cons, List.length_cons, Nat.mul_succ]
    omega
theorem text_sum {rs : List PRow} (G : GoodBook rs) : ((rs.flatMap rowLines).map (·.length)).sum + (rs.flatMap rowLines).length * nlS.length ≤ 16777216 := by
  have h1 := sum_len G.line_len
  have h2 := flat_len G.lines18
  have := G.len
  have e : nlS.length = 1 := rfl
  rw [e]
  omega
end PM
namespace PM
open PySem L2 WK
abbrev figs : Str := "0123456789"
theorem num_fact : ∀ k : Fin 100, (1 ≤ (numS (k.val : Int)).length ∧ (numS (k.val : Int)).length ≤ 2) ∧ Txt.stripChars (numS (k.val : Int)) figs = "" ∧ PySem.intText? (numS (k.val : Int)) = some (k.val : Int) ∧ ((numS (k.val : Int)).cps.toList.getD 0 0 = 48 → numS (k.val : Int) = "0") := by decide +kernel
end PM

/-! a book's text, read again -/
namespace PM
open PySem L2 WK
inductive Tg where
  | part (z : Str) (i j : Int)
  | need (z : Str) (i : Int)
  | step (i j : Int)
def Tg.words : Tg → List Str
  | .part z i j => ["part", z, numS i, numS j]
  | .need z i => ["need", z, numS i]
  | .step i j => ["step", numS i, numS j]
def Tg.line (t : Tg) : Str := Txt.join spc t.words
def Tg.ok : Tg → Prop
  | .part z i j => isNameM z = true ∧ (0 ≤ i ∧ i < 100) ∧ (0 ≤ j ∧ j < 100)
  | .need z i => isNameM z = true ∧ (0 ≤ i ∧ i < 100)
  | .step i j => (0 ≤ i ∧ i < 100) ∧ (0 ≤ j ∧ j < 100)
def rowTags (r : PRow) : List Tg := .part r.name r.lot r.lead :: (r.needs.map (fun x => .need x.1 x.2) ++ r.steps.map fun x => .step x.1 x.2)
theorem tags_lines (r : PRow) : (rowTags r).map Tg.line = rowLines r := by
  unfold rowTags rowLines
  rw [List.map_cons, List.map_append, List.map_map, List.map_map]
  rfl
def bookTags (rs : List PRow) : List Tg := rs.flatMap rowTags
theorem book_lines (rs : List PRow) : (bookTags rs).map Tg.line = rs.flatMap rowLines := by
  unfold bookTags
  induction rs with
  | nil => rfl
  | cons r rs ih => rw [List.flatMap_cons, List.flatMap_cons, List.map_append, ih, tags_lines]
abbrev RdS := Option (List PRow × PRow)
def rd1 : RdS → Tg → RdS
  | none, .part z i j => some ([], ⟨z, [], [], i, j⟩)
  | some (qs, r), .part z i j => some (qs ++ [r], ⟨z, [], [], i, j⟩)
  | some (qs, r), .need z i => some (qs, { r with needs := r.needs ++ [(z, i)] })
  | some (qs, r), .step i j => some (qs, { r with steps := r.steps ++ [(i, j)] })
  | none, _ => none
def rdRows : RdS → List PRow
  | none => []
  | some (qs, r) => qs ++ [r]
def SOk : RdS → Tg → Prop
  | _, .part _ _ _ => True
  | s, .need _ _ => ∃ qs r, s = some (qs, r) ∧ r.steps = []
  | s, .step _ _ => ∃ qs r, s = some (qs, r)
def rdV : RdS → List Tg → Prop
  | _, [] => True
  | s, t :: ts => SOk s t ∧ rdV (rd1 s t) ts
theorem rd_steps (ss : List (Int × Int)) (qs : List PRow) (r : PRow) (ts : List Tg) (h : rdV (some (qs, { r with steps := r.steps ++ ss })) ts) :
    rdV (some (qs, r)) ((ss.map fun x => Tg.step x.1 x.2) ++ ts) ∧ ((ss.map fun x => Tg.step x.1 x.2).foldl rd1 (some (qs, r))) = some (qs, { r with steps := r.steps ++ ss }) := by
  induction ss generalizing r with
  | nil => rw [List.append_nil] at h; exact ⟨h, by rw [List.append_nil]; rfl⟩
  | cons x ss ih =>
    have e : r.steps ++ x :: ss = (r.steps ++ [x]) ++ ss := by simp
    rw [e] at h
    have := ih { r with steps := r.steps ++ [x] } h
    refine ⟨⟨⟨qs, r, rfl⟩, this.1⟩, ?_⟩
    rw [e]
    exact this.2
theorem rd_needs (ns : List (Str × Int)) (qs : List PRow) (r : PRow) (hr : r.steps = []) (ts : List Tg) (h : rdV (some (qs, { r with needs := r.needs ++ ns })) ts) :
    rdV (some (qs, r)) ((ns.map fun x => Tg.need x.1 x.2) ++ ts) ∧ ((ns.map fun x => Tg.need x.1 x.2).foldl rd1 (some (qs, r))) = some (qs, { r with needs := r.needs ++ ns }) := by
  induction ns generalizing r with
  | nil => rw [List.append_nil] at h; exact ⟨h, by rw [List.append_nil]; rfl⟩
  | cons x ns ih =>
    have e : r.needs ++ x :: ns = (r.needs ++ [x]) ++ ns := by simp
    rw [e] at h
    have := ih { r with needs := r.needs ++ [x] } hr h
    refine ⟨⟨⟨qs, r, rfl, hr⟩, this.1⟩, ?_⟩
    rw [e]
    exact this.2
theorem rd_row (s : RdS) (r : PRow) (ts : List Tg) (h : rdV (some (rdRows s, r)) ts) : rdV s (rowTags r ++ ts) ∧ (rowTags r).foldl rd1 s = some (rdRows s, r) := by
  have e : rd1 s (.part r.name r.lot r.lead) = some (rdRows s, ⟨r.name, [], [], r.lot, r.lead⟩) := by
    cases s with
    | none => rfl
    | some p => rfl
  have h2 := rd_steps r.steps (rdRows s) ⟨r.name, r.needs, [], r.lot, r.lead⟩ ts h
  have h3 := rd_needs r.needs (rdRows s) ⟨r.name, [], [], r.lot, r.lead⟩ rfl (r.steps.map (fun x => Tg.step x.1 x.2) ++ ts) h2.1
  unfold rowTags
  refine ⟨⟨True.intro, ?_⟩, ?_⟩
  · rw [e]
    show rdV _ ((_ ++ _) ++ ts)
    rw [List.append_assoc]
    exact h3.1
  · rw [List.foldl_cons, e, List.foldl_append]
    have h4 := h3.2
    rw [show ((⟨r.name, [], [], r.lot, r.lead⟩ : PRow).needs ++ r.needs) = r.needs from rfl] at h4
    rw [h4]
    exact h2.2
theorem rd_book : ∀ (rs : List PRow) (s : RdS), rdV s (bookTags rs) ∧ rdRows ((bookTags rs).foldl rd1 s) = rdRows s ++ rs
  | [], s => ⟨True.intro, by rw [List.append_nil]; rfl⟩
  | r :: rs, s => by
    have ih := rd_book rs (some (rdRows s, r))
    have h := rd_row s r _ ih.1
    refine ⟨h.1, ?_⟩
    show rdRows ((rowTags r ++ bookTags rs).foldl rd1 s) = _
    rw [List.foldl_append, h.2, ih.2]
    show (rdRows s ++ [r]) ++ rs = _
    rw [List.append_assoc]
    rfl
theorem rd_at : ∀ {ts : List Tg} {s : RdS} {k : Nat} {t : Tg}, rdV s ts → ts[k]? = some t → SOk ((ts.take k).foldl rd1 s) t
  | [], _, _, _, _, h => by simp at h
  | t :: ts, s, 0, u, v, h => by
    simp at h
    subst h
    exact v.1
  | t :: ts, s, k + 1, u, v, h => rd_at (ts := ts) v.2 (by simpa using h)
def rdSize : RdS → Nat
  | none => 0
  | some (qs, r) => qs.length + r.needs.length + r.steps.length + 1
theorem rd1_size (s : RdS) (t : Tg) : rdSize (rd1 s t) ≤ rdSize s + 1 := by
  cases s with
  | none =>
    cases t with
    | part z i j => exact Nat.le_refl _
    | need z i => exact Nat.zero_le _
    | step i j => exact Nat.zero_le _
  | some p =>
    obtain ⟨qs, r⟩ := p
    cases t with
    | part z i j => show (qs ++ [r]).length + 0 + 0 + 1 ≤ qs.length + r.needs.length + r.steps.length + 1 + 1; rw [List.length_append]; simp; omega
    | need z i => show qs.length + (r.needs ++ [(z, i)]).length + r.steps.length + 1 ≤ qs.length + r.needs.length + r.steps.length + 1 + 1; rw [List.length_append]; simp; omega
    | step i j => show qs.length + r.needs.length + (r.steps ++ [(i, j)]).length + 1 ≤ qs.length + r.needs.length + r.steps.length + 1 + 1; rw [List.length_append]; simp; omega
theorem rd_size (ts : List Tg) (s : RdS) : rdSize (ts.foldl rd1 s) ≤ rdSize s + ts.length := by
  induction ts generalizing s with
  | nil => exact Nat.le_refl _
  | cons t ts ih =>
    have h1 := ih (rd1 s t)
    have h2 := rd1_size s t
    rw [List.foldl_cons, List.length_cons]
    omega
/-! words -/
theorem num_free : ∀ k : Fin 100, 32 ∉ TL.tl (numS (k.val : Int)) ∧ 10 ∉ TL.tl (numS (k.val : Int)) := by decide +kernel
theorem num_free' {i : Int} (h0 : 0 ≤ i) (h1 : i < 100) : 32 ∉ TL.tl (numS i) ∧ 10 ∉ TL.tl (numS i) := by
  have := num_free ⟨i.toNat, by omega⟩
  rwa [show ((i.toNat : Nat) : Int) = i by omega] at this
theorem name_free {z : Str} (h : isNameM z = true) {c : Nat} (hc : c ∉ letters.cps.toList) : c ∉ TL.tl z := by
  unfold isNameM at h
  simp only [Bool.and_eq_true, decide_eq_true_eq, List.all_map, List.all_eq_true] at h
  intro hm
  have := h.2.2 c hm
  simp only [Function.comp, id, decide_eq_true_eq] at this
  exact hc this
theorem words_free {t : Tg} (h : t.ok) : ∀ p ∈ t.words, 32 ∉ TL.tl p ∧ 10 ∉ TL.tl p := by
  have n32 : 32 ∉ letters.cps.toList := by decide +kernel
  have n10 : 10 ∉ letters.cps.toList := by decide +kernel
  cases t with
  | part z i j =>
    obtain ⟨h1, h2, h3⟩ := h
    intro p hp
    simp only [Tg.words, List.mem_cons, List.not_mem_nil, or_false] at hp
    rcases hp with rfl | rfl | rfl | rfl
    · decide +kernel
    · exact ⟨name_free h1 n32, name_free h1 n10⟩
    · exact num_free' h2.1 h2.2
    · exact num_free' h3.1 h3.2
  | need z i =>
    obtain ⟨h1, h2⟩ := h
    intro p hp
    simp only [Tg.words, List.mem_cons, List.not_mem_nil, or_false] at hp
    rcases hp with rfl | rfl | rfl
    · decide +kernel
    · exact ⟨name_free h1 n32, name_free h1 n10⟩
    · exact num_free' h2.1 h2.2
  | step i j =>
    obtain ⟨h2, h3⟩ := h
    intro p hp
    simp only [Tg.words, List.mem_cons, List.not_mem_nil, or_false] at hp
    rcases hp with rfl | rfl | rfl
    · decide +kernel
    · exact num_free' h2.1 h2.2
    · exact num_free' h3.1 h3.2
theorem mem_joinL {c : Nat} {S : List Nat} : ∀ {ps : List (List Nat)}, c ∈ TL.joinL S ps → c ∈ S ∨ ∃ p ∈ ps, c ∈ p
  | [], h => by simp [TL.joinL] at h
  | [p], h => .inr ⟨p, .head _, h⟩
  | p :: q :: r, h => by
    rcases List.mem_append.mp h with h | h
    · exact .inr ⟨p, .head _, h⟩
    · rcases List.mem_append.mp h with h | h
      · exact .inl h
      · rcases mem_joinL h with h | ⟨x, hx, h⟩
        · exact .inl h
        · exact .inr ⟨x, .tail _ hx, h⟩
theorem tl_txtjoin (y : Str) (ps : List Str) : TL.tl (Txt.join y ps) = TL.joinL (TL.tl y) (ps.map TL.tl) := by
  rw [TL.join_eq, TL.tl_join]
theorem line_free {t : Tg} (h : t.ok) : 10 ∉ TL.tl t.line := by
  intro hm
  unfold Tg.line at hm
  rw [tl_txtjoin] at hm
  rcases mem_joinL hm with h1 | ⟨p, hp, h1⟩
  · exact absurd h1 (by decide +kernel)
  · obtain ⟨q, hq, rfl⟩ := List.mem_map.mp hp
    exact (words_free h q hq).2 h1
theorem split_line {t : Tg} (h : t.ok) : Txt.split t.line spc = t.words := by
  unfold Tg.line
  refine TL.split_join (s := 32) (S := []) (by decide +kernel) (by decide +kernel) ?_ fun p hp => (words_free h p hp).1
  cases t <;> exact List.cons_ne_nil _ _
theorem split_text {ts : List Tg} (hne : ts ≠ []) (h : ∀ t ∈ ts, t.ok) : Txt.split (Txt.join nlS (ts.map Tg.line)) nlS = ts.map Tg.line := by
  refine TL.split_join (s := 10) (S := []) (by decide +kernel) (by decide +kernel) (fun e => hne (List.map_eq_nil_iff.mp e)) fun p hp => ?_
  obtain ⟨t, ht, rfl⟩ := List.mem_map.mp hp
  exact line_free (h t ht)
theorem joinL_ne {S : List Nat} {p : List Nat} {ps : List (List Nat)} (h : p ≠ []) : TL.joinL S (p :: ps) ≠ [] := by
  cases ps with
  | nil => exact h
  | cons q r => intro e; exact h (List.append_eq_nil_iff.mp e).1
theorem line_ne (t : Tg) : t.line ≠ "" := by
  intro e
  have h := congrArg TL.tl e
  unfold Tg.line at h
  rw [tl_txtjoin] at h
  cases t <;> exact joinL_ne (by decide +kernel) h
theorem text_ne {ts : List Tg} (hne : ts ≠ []) : Txt.join nlS (ts.map Tg.line) ≠ "" := by
  intro e
  have h := congrArg TL.tl e
  rw [tl_txtjoin] at h
  cases ts with
  | nil => exact hne rfl
  | cons t ts => exact joinL_ne (fun z => line_ne t (TL.ext_tl z)) h
theorem GoodBook.tags {rs : List PRow} (G : GoodBook rs) : ∀ t ∈ bookTags rs, t.ok := by
  intro t ht
  obtain ⟨r, hr, ht⟩ := List.mem_flatMap.mp ht
  obtain ⟨j, hj⟩ := List.getElem?_of_mem hr
  have R := G.row j r hj
  rcases List.mem_cons.mp ht with rfl | ht
  · have := R.lot
    have := R.lead
    exact ⟨R.nm, ⟨by omega, by omega⟩, by omega, by omega⟩
  · rcases List.mem_append.mp ht with ht | ht
    · obtain ⟨x, hx, rfl⟩ := List.mem_map.mp ht
      obtain ⟨q, hq, e⟩ := List.mem_map.mp (R.known x hx)
      obtain ⟨i, hi⟩ := List.getElem?_of_mem (List.mem_of_mem_take hq)
      have h1 := (G.row i q hi).nm
      rw [e] at h1
      have := R.many x hx
      exact ⟨h1, by omega, by omega⟩
    · obtain ⟨x, hx, rfl⟩ := List.mem_map.mp ht
      obtain ⟨⟨m1, m2⟩, m3, m4⟩ := R.steps x hx
      exact ⟨⟨by omega, by omega⟩, by omega, by omega⟩
theorem bookTags_ne {rs : List PRow} (h : rs ≠ []) : bookTags rs ≠ [] := by
  cases rs with
  | nil => exact absurd rfl h
  | cons r rs => exact List.cons_ne_nil _ _
theorem text_tags (rs : List PRow) : textOf rs = Txt.join nlS ((bookTags rs).map Tg.line) := by
  unfold textOf
  rw [book_lines]
theorem GoodBook.text_len {rs : List PRow} (G : GoodBook rs) : (textOf rs).length ≤ 10000 := by
  have h1 := StrLaws.join_length_le nlS (rs.flatMap rowLines)
  rw [← StrLaws.glued_eq_join] at h1; change (Txt.join nlS _).length ≤ _ at h1
  have h2 := sum_len G.line_len
  have h3 := flat_len G.lines18
  have := G.len
  have e : nlS.length = 1 := rfl
  rw [e] at h1
  unfold textOf
  omega
theorem GoodBook.tags_len {rs : List PRow} (G : GoodBook rs) : (bookTags rs).length ≤ 216 := by
  have h3 := flat_len G.lines18
  rw [← book_lines, List.length_map] at h3
  have := G.len
  omega
theorem GoodBook.tag_len {rs : List PRow} (G : GoodBook rs) : ∀ t ∈ bookTags rs, t.line.length ≤ 20 := by
  intro t ht
  refine G.line_len _ ?_
  rw [← book_lines]
  exact List.mem_map.mpr ⟨t, ht, rfl⟩
end PM

/-! a book's text by its rows -/
namespace PM
open PySem L2 WK
theorem joinL_app {S : List Nat} : ∀ {a b : List (List Nat)}, a ≠ [] → b ≠ [] → TL.joinL S (a ++ b) = TL.joinL S a ++ (S ++ TL.joinL S b)
  | [], _, h, _ => absurd rfl h
  | [p], b, _, hb => by
    cases b with
    | nil => exact absurd rfl hb
    | cons q r => rfl
  | p :: q :: r, b, _, hb => by
    show p ++ (S ++ TL.joinL S ((q :: r) ++ b)) = (p ++ (S ++ TL.joinL S (q :: r))) ++ _
    rw [joinL_app (by simp) hb]
    simp only [List.append_assoc]
theorem joinL_flat {α : Type} {S : List Nat} {f : α → List (List Nat)} (hf : ∀ x, f x ≠ []) : ∀ (xs : List α), TL.joinL S (xs.flatMap f) = TL.joinL S (xs.map fun x => TL.joinL S (f x))
  | [] => rfl
  | [x] => by rw [List.flatMap_cons, List.flatMap_nil, List.append_nil]; rfl
  | x :: y :: r => by
    rw [List.flatMap_cons, joinL_app (hf x) (by rw [List.flatMap_cons]; intro e; exact hf y (List.append_eq_nil_iff.mp e).1), joinL_flat hf (y :: r)]
    rfl
theorem rowLines_ne (r : PRow) : rowLines r ≠ [] := List.cons_ne_nil _ _
theorem text_rows (as : List PRow) : Txt.join nlS (as.map fun r => textOf [r]) = textOf as := by
  refine TL.ext_tl ?_
  unfold textOf
  rw [tl_txtjoin, tl_txtjoin, List.map_map, List.map_flatMap, joinL_flat (f := fun r => (rowLines r).map TL.tl) (fun r e => rowLines_ne r (List.map_eq_nil_iff.mp e))]
  refine congrArg _ (List.map_congr_left fun r _ => ?_)
  show TL.tl (Txt.join nlS ([r].flatMap rowLines)) = _
  rw [tl_txtjoin, List.flatMap_cons, List.flatMap_nil, List.append_nil]
theorem text_starts (rs : List PRow) (c : Nat) : Txt.startswith (textOf rs) (textOf (rs.take c)) = true := by
  have key : ∃ y, textOf rs = textOf (rs.take c) ++ y := by
    by_cases h1 : rs.take c = []
    · refine ⟨textOf rs, TL.ext_tl ?_⟩
      rw [h1, TL.tl_append]
      rfl
    · by_cases h2 : rs.drop c = []
      · refine ⟨"", TL.ext_tl ?_⟩
        have : rs.take c = rs := by
          have := List.take_append_drop c rs
          rw [h2, List.append_nil] at this
          exact this
        rw [this, TL.tl_append]
        show _ = _ ++ []
        rw [List.append_nil]
      · refine ⟨nlS ++ textOf (rs.drop c), TL.ext_tl ?_⟩
        have n1 : ∀ {as : List PRow}, as ≠ [] → (as.flatMap rowLines).map TL.tl ≠ [] := fun {as} h e => by
          cases as with
          | nil => exact h rfl
          | cons a as => rw [List.flatMap_cons] at e; exact rowLines_ne a (List.append_eq_nil_iff.mp (List.map_eq_nil_iff.mp e)).1
        rw [TL.tl_append, TL.tl_append]
        unfold textOf
        rw [tl_txtjoin, tl_txtjoin, tl_txtjoin, ← joinL_app (n1 h1) (n1 h2), ← List.map_append, ← List.flatMap_append, List.take_append_drop]
  obtain ⟨y, e⟩ := key
  rw [e]
  exact PySem.W.KT.starts_app _ _
theorem bookTags_app (as bs : List PRow) : bookTags (as ++ bs) = bookTags as ++ bookTags bs := List.flatMap_append
theorem bookTags_take (rs : List PRow) (c : Nat) : bookTags rs = bookTags (rs.take c) ++ bookTags (rs.drop c) := by
  rw [← bookTags_app, List.take_append_drop]
theorem rows_le_tags (rs : List PRow) : rs.length ≤ (bookTags rs).length := by
  induction rs with
  | nil => exact Nat.le_refl _
  | cons r rs ih =>
    show rs.length + 1 ≤ (rowTags r ++ bookTags rs).length
    rw [List.length_append]
    show _ ≤ (_ + 1) + _
    omega
/-- the row behind a beginning -/
theorem tags_at (rs : List PRow) {c : Nat} {r : PRow} (h : rs[c]? = some r) : (bookTags rs)[(bookTags (rs.take c)).length]? = some (.part r.name r.lot r.lead) := by
  have e : rs.drop c = r :: rs.drop (c + 1) := by
    obtain ⟨h1, h2⟩ := List.getElem?_eq_some_iff.mp h
    rw [List.drop_eq_getElem_cons h1, h2]
  rw [bookTags_take rs c, List.getElem?_append_right (Nat.le_refl _), Nat.sub_self, e]
  rfl
theorem part_five (z : Str) (i j : Int) : L2.cutS (Tg.line (.part z i j)) none (some 5) = "part " := by
  have e : ∃ y, TL.tl (Tg.line (.part z i j)) = [112, 97, 114, 116, 32] ++ y := by
    unfold Tg.line
    rw [tl_txtjoin]
    exact ⟨_, rfl⟩
  obtain ⟨y, e⟩ := e
  have hl : (Tg.line (.part z i j)).length = 5 + y.length := by
    rw [TL.len_tl, e, List.length_append]
    rfl
  refine TL.ext_tl ?_
  unfold L2.cutS
  rw [HT.sIx_none, show ((5 : Int)) = ((5 : Nat) : Int) from rfl, HT.sIx_nat, hl, show min 5 (5 + y.length) - 0 = 5 by omega, List.drop_zero]
  show List.take 5 (TL.tl (Tg.line (.part z i j))) = _
  rw [e]
  rfl
/-- rows that need nothing -/
structure Bare (r : PRow) : Prop where
  nm : isNameM r.name = true
  lot : 1 ≤ r.lot ∧ r.lot ≤ 99
  lead : 0 ≤ r.lead ∧ r.lead ≤ 30
  few : r.steps.length ≤ 5
  steps : ∀ x ∈ r.steps, (0 ≤ x.1 ∧ x.1 < 6) ∧ 1 ≤ x.2 ∧ x.2 ≤ 99
  none : r.needs = []
theorem GoodRow.bare {names : List Str} {r : PRow} (R : GoodRow names r) (h : r.needs = []) : Bare r := ⟨R.nm, R.lot, R.lead, R.few, R.steps, h⟩
theorem bare_led : ∀ (as bs : List PRow), (∀ r ∈ as, r.needs = []) → (∀ p ∈ ledOf bs, p.2 = []) → ∀ p ∈ ledOf (bs ++ as), p.2 = []
  | [], bs, _, h => by rw [List.append_nil]; exact h
  | a :: as, bs, ha, h => by
    have e : bs ++ a :: as = (bs ++ [a]) ++ as := by simp
    rw [e]
    refine bare_led as (bs ++ [a]) (fun r hr => ha r (.tail _ hr)) fun p hp => ?_
    rw [ledOf_snoc] at hp
    rcases List.mem_append.mp hp with hp | hp
    · exact h p hp
    · rw [List.mem_singleton] at hp
      subst hp
      show ledTo _ _ a.needs = []
      rw [ha a (.head _)]
      unfold ledTo
      refine List.filter_eq_nil_iff.mpr fun q hq => ?_
      obtain ⟨s, _, rfl⟩ := List.mem_map.mp (show q ∈ _ from hq)
      simp
theorem bare_book {as : List PRow} (h : ∀ r ∈ as, Bare r) (nd : (as.map (·.name)).Nodup) (hl : as.length ≤ 12) : GoodBook as where
  len := hl
  row := fun i r hr => by
    have b := h r (List.mem_of_getElem? hr)
    refine ⟨b.nm, ?_, b.lot, b.lead, ?_, ?_, ?_, b.few, b.steps⟩
    · intro hm
      rw [← List.take_append_drop i as, List.map_append, List.nodup_append] at nd
      obtain ⟨q, hq, e⟩ := List.mem_map.mp hm
      refine nd.2.2 q.name (List.mem_map.mpr ⟨q, hq, rfl⟩) r.name (List.mem_map.mpr ⟨r, ?_, rfl⟩) e
      exact List.mem_of_getElem? (i := 0) (by rw [List.getElem?_drop]; simpa using hr)
    · rw [b.none]; exact List.nodup_nil
    · intro x hx; rw [b.none] at hx; cases hx
    · intro x hx; rw [b.none] at hx; cases hx
  led := fun p hp => by
    have := bare_led as [] (fun r hr => (h r hr).none) (fun _ z => nomatch z) p hp
    rw [this]
    decide
theorem GoodBook.alone {rs : List PRow} (G : GoodBook rs) : (∀ r ∈ rs.filter (fun r => r.needs.isEmpty), Bare r) ∧ ((rs.filter fun r => r.needs.isEmpty).map (·.name)).Nodup ∧ (rs.filter fun r => r.needs.isEmpty).length ≤ 12 := by
  refine ⟨fun r hr => ?_, ?_, ?_⟩
  · obtain ⟨h1, h2⟩ := List.mem_filter.mp hr
    obtain ⟨i, hi⟩ := List.getElem?_of_mem h1
    exact (G.row i r hi).bare (List.isEmpty_iff.mp h2)
  · have := G.nodup rs.length
    rw [List.take_length] at this
    exact this.sublist ((List.filter_sublist ..).map _)
  · exact Nat.le_trans (List.length_filter_le ..) G.len
theorem Bare.book {r : PRow} (b : Bare r) : GoodBook [r] := bare_book (fun q hq => by rw [List.mem_singleton] at hq; exact hq ▸ b) (by simp) (by simp)
end PM

/-! shapes of rows and lines -/
namespace PM
open PySem L2 WK
theorem row_shp {r : PRow} (h : r.name.cps.all (· < 0x110000) = true) (hn : ∀ x ∈ r.needs, x.1.cps.all (· < 0x110000) = true) : Shp 3 (encRow r) := by
  refine Shp.tup fun d hd => ?_
  simp only [List.mem_cons, List.not_mem_nil, or_false] at hd
  rcases hd with rfl | rfl | rfl | rfl | rfl
  · exact Shp.str h
  · refine Shp.tup fun d hd => ?_
    obtain ⟨x, hx, rfl⟩ := List.mem_map.mp hd
    refine Shp.tup fun d hd => ?_
    simp only [List.mem_cons, List.not_mem_nil, or_false] at hd
    rcases hd with rfl | rfl
    · exact Shp.str (hn x hx)
    · exact Shp.int
  · refine Shp.tup fun d hd => ?_
    obtain ⟨x, hx, rfl⟩ := List.mem_map.mp hd
    refine Shp.tup fun d hd => ?_
    simp only [List.mem_cons, List.not_mem_nil, or_false] at hd
    rcases hd with rfl | rfl
    · exact Shp.int
    · exact Shp.int
  · exact Shp.int
  · exact Shp.int
theorem name_shp {z : Str} (h : isNameM z = true) : z.cps.all (· < 0x110000) = true := by
  have key : ∀ c ∈ z.cps.toList, c < 0x110000 := fun c hc => by
    refine Decidable.byContradiction fun hn => ?_
    refine name_free (c := c) h (fun hm => hn ?_) hc
    have : ∀ x ∈ letters.cps.toList, x < 0x110000 := by decide +kernel
    exact this c hm
  rw [← Array.all_toList]
  exact List.all_eq_true.mpr fun c hc => decide_eq_true (key c hc)
theorem GoodBook.rowShp {rs : List PRow} (G : GoodBook rs) {r : PRow} (h : r ∈ rs) : Shp 3 (encRow r) := by
  obtain ⟨i, hi⟩ := List.getElem?_of_mem h
  have R := G.row i r hi
  refine row_shp (name_shp R.nm) fun x hx => ?_
  obtain ⟨q, hq, e⟩ := List.mem_map.mp (R.known x hx)
  obtain ⟨j, hj⟩ := List.getElem?_of_mem (List.mem_of_mem_take hq)
  rw [← e]
  exact name_shp (G.row j q hj).nm
theorem GoodBook.shp {rs : List PRow} (G : GoodBook rs) : Shp 4 (.list (rs.map encRow)) := Shp.lst fun d hd => by
  obtain ⟨r, hr, rfl⟩ := List.mem_map.mp hd
  exact G.rowShp hr
theorem num_shp : ∀ k : Fin 100, ∀ c ∈ TL.tl (numS (k.val : Int)), c < 0x110000 := by decide +kernel
theorem num_shp' {i : Int} (h0 : 0 ≤ i) (h1 : i < 100) : ∀ c ∈ TL.tl (numS i), c < 0x110000 := by
  have := num_shp ⟨i.toNat, by omega⟩
  rwa [show ((i.toNat : Nat) : Int) = i by omega] at this
theorem name_shp' {z : Str} (h : isNameM z = true) : ∀ c ∈ TL.tl z, c < 0x110000 := by
  have := name_shp h
  rw [← Array.all_toList, List.all_eq_true] at this
  exact fun c hc => of_decide_eq_true (this c hc)
theorem line_shp {t : Tg} (h : t.ok) : Shp 0 (.str t.line) := by
  refine Shp.str ?_
  rw [← Array.all_toList]
  refine List.all_eq_true.mpr fun c hc => decide_eq_true ?_
  have hm : c ∈ TL.tl t.line := hc
  unfold Tg.line at hm
  rw [tl_txtjoin] at hm
  rcases mem_joinL hm with h1 | ⟨p, hp, h1⟩
  · exact (show ∀ c ∈ TL.tl spc, c < 0x110000 by decide +kernel) c h1
  · obtain ⟨q, hq, rfl⟩ := List.mem_map.mp hp
    cases t with
    | part z i j =>
      obtain ⟨k1, k2, k3⟩ := h
      simp only [Tg.words, List.mem_cons, List.not_mem_nil, or_false] at hq
      rcases hq with rfl | rfl | rfl | rfl
      · exact (show ∀ c ∈ TL.tl "part", c < 0x110000 by decide +kernel) c h1
      · exact name_shp' k1 c h1
      · exact num_shp' k2.1 k2.2 c h1
      · exact num_shp' k3.1 k3.2 c h1
    | need z i =>
      obtain ⟨k1, k2⟩ := h
      simp only [Tg.words, List.mem_cons, List.not_mem_nil, or_false] at hq
      rcases hq with rfl | rfl | rfl
      · exact (show ∀ c ∈ TL.tl "need", c < 0x110000 by decide +kernel) c h1
      · exact name_shp' k1 c h1
      · exact num_shp' k2.1 k2.2 c h1
    | step i j =>
      obtain ⟨k2, k3⟩ := h
      simp only [Tg.words, List.mem_cons, List.not_mem_nil, or_false] at hq
      rcases hq with rfl | rfl | rfl
      · exact (show ∀ c ∈ TL.tl "step", c < 0x110000 by decide +kernel) c h1
      · exact num_shp' k2.1 k2.2 c h1
      · exact num_shp' k3.1 k3.2 c h1
end PM

/-! the law's own lines -/
namespace PM
open PySem L2 WK
theorem part_plus (z : Str) (i j : Int) : ((((("part " : Str) ++ z) ++ (" " : Str)) ++ numS i) ++ (" " : Str)) ++ numS j = Tg.line (.part z i j) := by
  refine TL.ext_tl ?_
  unfold Tg.line
  rw [tl_txtjoin]
  simp only [TL.tl_append]
  show _ = TL.tl "part" ++ (TL.tl spc ++ (TL.tl z ++ (TL.tl spc ++ (TL.tl (numS i) ++ (TL.tl spc ++ TL.tl (numS j))))))
  rw [show TL.tl ("part " : Str) = TL.tl "part" ++ TL.tl spc by decide +kernel]
  simp only [List.append_assoc]
theorem need_plus (z : Str) (i : Int) : ((("need " : Str) ++ z) ++ (" " : Str)) ++ numS i = Tg.line (.need z i) := by
  refine TL.ext_tl ?_
  unfold Tg.line
  rw [tl_txtjoin]
  simp only [TL.tl_append]
  show _ = TL.tl "need" ++ (TL.tl spc ++ (TL.tl z ++ (TL.tl spc ++ (TL.tl (numS i)))))
  rw [show TL.tl ("need " : Str) = TL.tl "need" ++ TL.tl spc by decide +kernel]
  simp only [List.append_assoc]
theorem step_plus (i j : Int) : ((("step " : Str) ++ numS i) ++ (" " : Str)) ++ numS j = Tg.line (.step i j) := by
  refine TL.ext_tl ?_
  unfold Tg.line
  rw [tl_txtjoin]
  simp only [TL.tl_append]
  show _ = TL.tl "step" ++ (TL.tl spc ++ (TL.tl (numS i) ++ (TL.tl spc ++ (TL.tl (numS j)))))
  rw [show TL.tl ("step " : Str) = TL.tl "step" ++ TL.tl spc by decide +kernel]
  simp only [List.append_assoc]
theorem len_add (a b : Str) : (a ++ b).length = a.length + b.length := by
  rw [TL.len_tl, TL.tl_append, List.length_append, ← TL.len_tl, ← TL.len_tl]
end PM
namespace PM
open PySem L2 WK
theorem textOf_nil : textOf [] = "" := TL.ext_tl (by unfold textOf; rw [tl_txtjoin]; rfl)
abbrev rowA : PRow := ⟨"a", [], [], 99, 30⟩
theorem textOf_a : textOf [rowA] = "part a 99 30" := by decide +kernel
theorem goodA : GoodBook [rowA] := Bare.book ⟨by decide +kernel, by decide, by decide, by decide, (fun _ z => nomatch z), rfl⟩
theorem row_al {r : PRow} (h1 : r.needs.length ≤ 100000) (h2 : r.steps.length ≤ 100000) {n : Nat} : AlOk (n + 3) (encRow r) := by
  refine AlOk.tup (by simp) fun d hd => ?_
  simp only [List.mem_cons, List.not_mem_nil, or_false] at hd
  rcases hd with rfl | rfl | rfl | rfl | rfl
  · exact AlOk.str
  · refine AlOk.tup (by rw [List.length_map]; exact h1) fun d hd => ?_
    obtain ⟨x, hx, rfl⟩ := List.mem_map.mp hd
    refine AlOk.tup (by simp) fun d hd => ?_
    simp only [List.mem_cons, List.not_mem_nil, or_false] at hd
    rcases hd with rfl | rfl
    · exact AlOk.str
    · exact AlOk.int
  · refine AlOk.tup (by rw [List.length_map]; exact h2) fun d hd => ?_
    obtain ⟨x, hx, rfl⟩ := List.mem_map.mp hd
    refine AlOk.tup (by simp) fun d hd => ?_
    simp only [List.mem_cons, List.not_mem_nil, or_false] at hd
    rcases hd with rfl | rfl
    · exact AlOk.int
    · exact AlOk.int
  · exact AlOk.int
  · exact AlOk.int
theorem GoodBook.al {rs : List PRow} (G : GoodBook rs) {n : Nat} : AlOk (n + 4) (.list (rs.map encRow)) := by
  refine AlOk.lst (by rw [List.length_map]; have := G.len; omega) fun d hd => ?_
  obtain ⟨r, hr, rfl⟩ := List.mem_map.mp hd
  have hnl := G.lines18 r hr
  unfold rowLines at hnl
  rw [List.length_cons, List.length_append, List.length_map, List.length_map] at hnl
  exact row_al (by omega) (by omega)
end PM

/-! what the law itself counts -/
namespace PM
open PySem L2
def needsOf (rs : List PRow) (s : Str) : List (Str × Int) := match rs.filter fun r => decide (r.name = s) with | r :: _ => r.needs | [] => []
def lawStep (g : Str → List (Str × Int)) (f : List (Str × Int)) (p : Str × Int) : List (Str × Int) := addAll p.2 (addA f p.1 p.2) (g p.1)
def lawLed (rs : List PRow) : Nat → List (Str × Int) → List (Str × Int)
  | 0, _ => []
  | n + 1, needs => needs.foldl (lawStep fun s => lawLed rs n (needsOf rs s)) []
structure Fine (names : List Str) (f : List (Str × Int)) : Prop where
  nd : (f.map (·.1)).Nodup
  sub : ∀ y ∈ f, y.1 ∈ names
theorem putA_fine {names : List Str} {f : List (Str × Int)} {s : Str} {v : Int} (h : Fine names f) (hs : s ∈ names) : Fine names (putA f s v) := by
  by_cases k : s ∈ f.map (·.1)
  · refine ⟨by rw [putA_keys f s v k]; exact h.nd, fun y hy => ?_⟩
    have : y.1 ∈ (putA f s v).map (·.1) := List.mem_map.mpr ⟨y, hy, rfl⟩
    rw [putA_keys f s v k] at this
    obtain ⟨z, hz, e⟩ := List.mem_map.mp this
    rw [← e]
    exact h.sub z hz
  · rw [putA_new f s v k]
    refine ⟨?_, fun y hy => ?_⟩
    · rw [List.map_append]
      refine List.nodup_append.mpr ⟨h.nd, List.nodup_cons.mpr ⟨(by simp), List.nodup_nil⟩, ?_⟩
      intro a ha b hb hab
      rw [List.map_singleton, List.mem_singleton] at hb
      subst hb hab
      exact k ha
    · rcases List.mem_append.mp hy with hy | hy
      · exact h.sub y hy
      · rw [List.mem_singleton] at hy
        subst hy
        exact hs
theorem addA_fine {names : List Str} {f : List (Str × Int)} {s : Str} {v : Int} (h : Fine names f) (hs : s ∈ names) : Fine names (addA f s v) := putA_fine h hs
theorem addAll_fine {names : List Str} {m : Int} {more : List (Str × Int)} (hm : ∀ y ∈ more, y.1 ∈ names) {f : List (Str × Int)} (h : Fine names f) : Fine names (addAll m f more) := by
  unfold addAll
  induction more generalizing f with
  | nil => exact h
  | cons y more ih =>
    rw [List.foldl_cons]
    exact ih (fun z hz => hm z (.tail _ hz)) (addA_fine h (hm y (.head _)))
theorem Fine.nil (names : List Str) : Fine names [] := ⟨List.nodup_nil, fun _ h => nomatch h⟩
theorem Fine.len {names : List Str} {f : List (Str × Int)} (h : Fine names f) : f.length ≤ names.length := by
  have := nodup_sub_length h.nd (l' := names) (fun x hx => by obtain ⟨y, hy, rfl⟩ := List.mem_map.mp hx; exact h.sub y hy)
  rwa [List.length_map] at this
theorem lawStep_fine {names : List Str} {g : Str → List (Str × Int)} {f : List (Str × Int)} {p : Str × Int} (h : Fine names f) (hp : p.1 ∈ names) (hg : ∀ y ∈ g p.1, y.1 ∈ names) : Fine names (lawStep g f p) := addAll_fine hg (addA_fine h hp)
theorem lawFold_fine {names : List Str} {g : Str → List (Str × Int)} {needs : List (Str × Int)} (hp : ∀ p ∈ needs, p.1 ∈ names) (hg : ∀ p ∈ needs, ∀ y ∈ g p.1, y.1 ∈ names) {f : List (Str × Int)} (h : Fine names f) : Fine names (needs.foldl (lawStep g) f) := by
  induction needs generalizing f with
  | nil => exact h
  | cons p needs ih =>
    rw [List.foldl_cons]
    exact ih (fun q hq => hp q (.tail _ hq)) (fun q hq => hg q (.tail _ hq)) (lawStep_fine h (hp p (.head _)) (hg p (.head _)))
theorem filter_one {rs : List PRow} {r : PRow} (nd : (rs.map (·.name)).Nodup) (h : r ∈ rs) : rs.filter (fun x => decide (x.name = r.name)) = [r] := by
  induction rs with
  | nil => cases h
  | cons a rs ih =>
    rw [List.map_cons] at nd
    obtain ⟨n1, n2⟩ := List.nodup_cons.mp nd
    rcases List.mem_cons.mp h with rfl | h
    · rw [List.filter_cons, if_pos (decide_eq_true rfl)]
      congr 1
      refine List.filter_eq_nil_iff.mpr fun x hx => ?_
      intro z
      exact n1 (List.mem_map.mpr ⟨x, hx, of_decide_eq_true z⟩)
    · rw [List.filter_cons, if_neg, ih n2 h]
      intro z
      exact n1 (List.mem_map.mpr ⟨r, h, (of_decide_eq_true z).symm⟩)
section
variable {rs : List PRow}
theorem GoodBook.nd (G : GoodBook rs) : (rs.map (·.name)).Nodup := by
  have := G.nodup rs.length
  rwa [List.take_length] at this
theorem needsOf_row (G : GoodBook rs) {r : PRow} (h : r ∈ rs) : needsOf rs r.name = r.needs := by
  unfold needsOf
  rw [filter_one G.nd h]
theorem mem_take_names {i n : Nat} (hi : i ≤ n) {s : Str} (h : s ∈ (rs.take i).map (·.name)) : s ∈ (rs.take n).map (·.name) := by
  obtain ⟨r, hr, e⟩ := List.mem_map.mp h
  refine List.mem_map.mpr ⟨r, ?_, e⟩
  obtain ⟨j, hj⟩ := List.getElem?_of_mem hr
  have h1 : j < i := by
    have := (List.getElem?_eq_some_iff.mp hj).1
    rw [List.length_take] at this
    omega
  rw [List.getElem?_take_of_lt h1] at hj
  exact List.mem_of_getElem? (by rw [List.getElem?_take_of_lt (show j < n by omega)]; exact hj)
theorem names_take {n : Nat} {s : Str} (h : s ∈ (rs.take n).map (·.name)) : s ∈ rs.map (·.name) := by
  obtain ⟨r, hr, e⟩ := List.mem_map.mp h
  exact List.mem_map.mpr ⟨r, List.mem_of_mem_take hr, e⟩
/-- the row behind a name, and how deep it lies -/
theorem GoodBook.at (G : GoodBook rs) {n : Nat} {s : Str} (h : s ∈ (rs.take (n + 1)).map (·.name)) : ∃ r ∈ rs, r.name = s ∧ rs.filter (fun x => decide (x.name = s)) = [r] ∧ (∀ x ∈ r.needs, x.1 ∈ (rs.take n).map (·.name)) ∧ (∀ x ∈ r.needs, 1 ≤ x.2 ∧ x.2 ≤ 9) ∧ r.needs.length ≤ 12 := by
  obtain ⟨r, hr, rfl⟩ := List.mem_map.mp h
  obtain ⟨j, hj⟩ := List.getElem?_of_mem hr
  have h1 : j < n + 1 := by
    have := (List.getElem?_eq_some_iff.mp hj).1
    rw [List.length_take] at this
    omega
  rw [List.getElem?_take_of_lt h1] at hj
  have R := G.row j r hj
  have hm := List.mem_of_getElem? hj
  refine ⟨r, hm, rfl, filter_one G.nd hm, fun x hx => mem_take_names (by omega) (R.known x hx), R.many, ?_⟩
  have := nodup_sub_length R.nd (l' := (rs.take j).map (·.name)) (by
    intro x hx
    obtain ⟨y, hy, rfl⟩ := List.mem_map.mp hx
    exact R.known y hy)
  rw [List.length_map, List.length_map, List.length_take] at this
  have := G.len
  omega
theorem lawLed_fine (G : GoodBook rs) : ∀ (n : Nat) (needs : List (Str × Int)), (∀ x ∈ needs, x.1 ∈ (rs.take n).map (·.name)) → Fine (rs.map (·.name)) (lawLed rs n needs)
  | 0, _, _ => Fine.nil _
  | n + 1, needs, h => by
    refine lawFold_fine (fun p hp => names_take (h p hp)) (fun p hp => ?_) (Fine.nil _)
    obtain ⟨r, hr, e, hf, hn, _⟩ := G.at (h p hp)
    rw [← e, needsOf_row G hr]
    exact (lawLed_fine G n r.needs hn).sub
end
theorem get_kvI (f : List (Str × Int)) (s : Str) (d : Int) : (valV (kvI f) (.inr s)).getD (.int d) = .int ((getA f s).getD d) := by
  rw [valV_kvI]
  cases getA f s <;> rfl
open WK in
theorem src_keysI {d : Addr} {o : Obj} {m : List (Str × Int)} : Src (Itk d o (kvI m)) (Frz d o (kvI m)) m (fun _ x p => x = .str p.1) := by
  have h := src_keys (d := d) (o := o) (kvs := kvI m)
  have e : (kvI m).map (·.1) = m.map fun p => (Sum.inr p.1 : Key) := by unfold kvI; rw [List.map_map]; rfl
  rw [e] at h
  exact h.map
open WK in
theorem src_itemsI {d : Addr} {o : Obj} {m : List (Str × Int)} : Src (Iti d o (kvI m)) (Frz d o (kvI m)) m (fun B x p => ∃ T, x = .ref T ∧ B T = some (.tup [.str p.1, .int p.2])) := src_items.map
theorem getA_nodup {α : Type} {m : List (Str × α)} {y : Str × α} (h : y ∈ m) (nd : (m.map (·.1)).Nodup) : getA m y.1 = some y.2 := by
  induction m with
  | nil => cases h
  | cons p m ih =>
    rw [List.map_cons] at nd
    obtain ⟨n1, n2⟩ := List.nodup_cons.mp nd
    unfold getA
    rw [List.find?_cons]
    rcases List.mem_cons.mp h with rfl | h
    · rw [decide_eq_true rfl]; rfl
    · rw [decide_eq_false (fun e : p.1 = y.1 => n1 (List.mem_map.mpr ⟨y, h, e.symm⟩))]
      exact ih h n2
end PM

/-! what the law counts is what the program counts -/
namespace PM
open PySem L2
def valA (f : List (Str × Int)) (s : Str) : Int := (getA f s).getD 0
theorem getA_putA (f : List (Str × Int)) (s t : Str) (v : Int) : getA (putA f s v) t = if t = s then some v else getA f t := by
  have h : (getA (putA f s v) t).map V.int = (if t = s then some v else getA f t).map V.int := by
    rw [← valV_kvI, ← putK_kvI, valV_put]
    by_cases e : t = s
    · subst e; rw [if_pos rfl, if_pos rfl]; rfl
    · rw [if_neg e, if_neg (fun z => e (Sum.inr.inj z)), valV_kvI]
  cases e1 : getA (putA f s v) t with
  | none =>
    rw [e1] at h
    cases e2 : (if t = s then some v else getA f t) with
    | none => rfl
    | some w => rw [e2] at h; cases h
  | some u =>
    rw [e1] at h
    cases e2 : (if t = s then some v else getA f t) with
    | none => rw [e2] at h; cases h
    | some w => rw [e2] at h; simp at h; rw [h]
theorem valA_addA (f : List (Str × Int)) (s t : Str) (i : Int) : valA (addA f s i) t = valA f t + if t = s then i else 0 := by
  unfold valA addA
  rw [getA_putA]
  by_cases e : t = s
  · subst e; rw [if_pos rfl, if_pos rfl]; rfl
  · rw [if_neg e, if_neg e]; omega
theorem getA_cons {α : Type} (y : Str × α) (l : List (Str × α)) (t : Str) : getA (y :: l) t = if y.1 = t then some y.2 else getA l t := by
  unfold getA
  rw [List.find?_cons]
  by_cases e : y.1 = t
  · rw [if_pos e, decide_eq_true e]; rfl
  · rw [if_neg e, decide_eq_false e]
theorem getA_none {α : Type} {l : List (Str × α)} {t : Str} (h : t ∉ l.map (·.1)) : getA l t = none := by
  cases e : getA l t with
  | none => rfl
  | some v => exact absurd (List.mem_map.mpr ⟨_, getA_mem e, rfl⟩) h
theorem valA_addAll {m : Int} {more : List (Str × Int)} (nd : (more.map (·.1)).Nodup) (f : List (Str × Int)) (t : Str) : valA (addAll m f more) t = valA f t + m * valA more t := by
  induction more generalizing f with
  | nil => show valA f t = valA f t + m * 0; omega
  | cons y more ih =>
    rw [List.map_cons] at nd
    obtain ⟨n1, n2⟩ := List.nodup_cons.mp nd
    show valA (addAll m (addA f y.1 (m * y.2)) more) t = _
    rw [ih n2, valA_addA]
    have hv : valA (y :: more) t = if y.1 = t then y.2 else valA more t := by
      unfold valA
      rw [getA_cons]
      by_cases e : y.1 = t
      · rw [if_pos e, if_pos e]; rfl
      · rw [if_neg e, if_neg e]
    rw [hv]
    by_cases e : t = y.1
    · subst e
      have h0 : valA more y.1 = 0 := by unfold valA; rw [getA_none n1]; rfl
      rw [if_pos rfl, if_pos rfl, h0]
      omega
    · rw [if_neg e, if_neg (fun z => e z.symm)]
      omega
/-- alike as sums -/
def Alk (f g : List (Str × Int)) : Prop := ∀ t, valA f t = valA g t
theorem fold_alk {g g' : Str → List (Str × Int)} {needs : List (Str × Int)} (h : ∀ p ∈ needs, ((g p.1).map (·.1)).Nodup ∧ ((g' p.1).map (·.1)).Nodup ∧ Alk (g p.1) (g' p.1)) {f f' : List (Str × Int)} (e : Alk f f') : Alk (needs.foldl (lawStep g) f) (needs.foldl (lawStep g') f') := by
  induction needs generalizing f f' with
  | nil => exact e
  | cons p needs ih =>
    obtain ⟨h1, h2, h3⟩ := h p (.head _)
    rw [List.foldl_cons, List.foldl_cons]
    refine ih (fun q hq => h q (.tail _ hq)) fun t => ?_
    unfold lawStep
    rw [valA_addAll h1, valA_addAll h2, valA_addA, valA_addA, e t, h3 t]
def Pos (f : List (Str × Int)) : Prop := ∀ y ∈ f, 0 < y.2
theorem putA_mem {f : List (Str × Int)} {s : Str} {v : Int} {y : Str × Int} (h : y ∈ putA f s v) : y = (s, v) ∨ y ∈ f := by
  unfold putA at h
  split at h
  · obtain ⟨z, hz, e⟩ := List.mem_map.mp h
    by_cases k : z.1 = s
    · rw [if_pos k] at e; exact .inl (by rw [← e, k])
    · rw [if_neg k] at e; exact .inr (e ▸ hz)
  · rcases List.mem_append.mp h with h | h
    · exact .inr h
    · exact .inl (List.mem_singleton.mp h)
theorem addA_pos {f : List (Str × Int)} {s : Str} {i : Int} (h : Pos f) (hi : 0 < i) : Pos (addA f s i) := by
  intro y hy
  rcases putA_mem hy with rfl | hy
  · show 0 < (getA f s).getD 0 + i
    cases e : getA f s with
    | none => show 0 < 0 + i; omega
    | some v => have : 0 < v := h _ (getA_mem e); show 0 < v + i; omega
  · exact h y hy
theorem addAll_pos {f more : List (Str × Int)} {m : Int} (h : Pos f) (hm : 0 < m) (hp : Pos more) : Pos (addAll m f more) := by
  unfold addAll
  induction more generalizing f with
  | nil => exact h
  | cons y more ih => exact ih (addA_pos h (Int.mul_pos hm (hp y (.head _)))) fun z hz => hp z (.tail _ hz)
theorem fold_pos {g : Str → List (Str × Int)} {needs : List (Str × Int)} (hn : Pos needs) (h : ∀ p ∈ needs, Pos (g p.1)) {f : List (Str × Int)} (hf : Pos f) : Pos (needs.foldl (lawStep g) f) := by
  induction needs generalizing f with
  | nil => exact hf
  | cons p needs ih => exact ih (fun z hz => hn z (.tail _ hz)) (fun q hq => h q (.tail _ hq)) (addAll_pos (addA_pos hf (hn p (.head _))) (hn p (.head _)) (h p (.head _)))
def Nng (f : List (Str × Int)) : Prop := ∀ y ∈ f, 0 ≤ y.2
theorem addA_nng {f : List (Str × Int)} {s : Str} {i : Int} (h : Nng f) (hi : 0 ≤ i) : Nng (addA f s i) := by
  intro y hy
  rcases putA_mem hy with rfl | hy
  · show 0 ≤ (getA f s).getD 0 + i
    cases e : getA f s with
    | none => show 0 ≤ 0 + i; omega
    | some v => have : 0 ≤ v := h _ (getA_mem e); show 0 ≤ v + i; omega
  · exact h y hy
theorem addAll_nng {f more : List (Str × Int)} {m : Int} (h : Nng f) (hm : 0 < m) (hp : Pos more) : Nng (addAll m f more) := by
  unfold addAll
  induction more generalizing f with
  | nil => exact h
  | cons y more ih => exact ih (addA_nng h (Int.le_of_lt (Int.mul_pos hm (hp y (.head _))))) fun z hz => hp z (.tail _ hz)
theorem fold_nng {g : Str → List (Str × Int)} {needs : List (Str × Int)} (hn : Pos needs) (h : ∀ p ∈ needs, Pos (g p.1)) {f : List (Str × Int)} (hf : Nng f) : Nng (needs.foldl (lawStep g) f) := by
  induction needs generalizing f with
  | nil => exact hf
  | cons p needs ih => exact ih (fun z hz => hn z (.tail _ hz)) (fun q hq => h q (.tail _ hq)) (addAll_nng (addA_nng hf (Int.le_of_lt (hn p (.head _)))) (hn p (.head _)) (h p (.head _)))
theorem filter_alk {f : List (Str × Int)} (nd : (f.map (·.1)).Nodup) (nn : Nng f) : Alk (f.filter fun p => decide (0 < p.2)) f := by
  intro t
  have nd2 : ((f.filter fun p => decide (0 < p.2)).map (·.1)).Nodup := nd.sublist (List.filter_sublist.map _)
  unfold valA
  cases e : getA f t with
  | none =>
    rw [getA_none]
    intro z
    obtain ⟨y, hy, rfl⟩ := List.mem_map.mp z
    have := (getA_isSome f y.1).mpr (List.mem_map.mpr ⟨y, (List.mem_filter.mp hy).1, rfl⟩)
    rw [e] at this
    cases this
  | some v =>
    have hm := getA_mem e
    by_cases hv : 0 < v
    · rw [getA_nodup (y := (t, v)) (List.mem_filter.mpr ⟨hm, decide_eq_true hv⟩) nd2]
    · have : v = 0 := by have : 0 ≤ v := nn _ hm; omega
      subst this
      cases e2 : getA (f.filter fun p => decide (0 < p.2)) t with
      | none => rfl
      | some u =>
        obtain ⟨h1, h2⟩ := List.mem_filter.mp (getA_mem e2)
        have := getA_nodup h1 nd
        rw [show (t, u).1 = t from rfl, e] at this
        exact (Option.some.inj this).symm
/-- alike, each key once, no zero: the same rows -/
theorem alk_mem {f g : List (Str × Int)} (nf : (f.map (·.1)).Nodup) (pf : Pos f) (e : Alk f g) {y : Str × Int} (h : y ∈ f) : getA g y.1 = some y.2 := by
  have h1 := e y.1
  unfold valA at h1
  rw [getA_nodup h nf] at h1
  have hp := pf y h
  cases e2 : getA g y.1 with
  | none => rw [e2] at h1; simp at h1; omega
  | some v => rw [e2] at h1; simp at h1; rw [h1]
theorem alk_len {f g : List (Str × Int)} (nf : (f.map (·.1)).Nodup) (ng : (g.map (·.1)).Nodup) (pf : Pos f) (pg : Pos g) (e : Alk f g) : f.length = g.length := by
  have h1 := nodup_sub_length nf (l' := g.map (·.1)) fun x hx => by
    obtain ⟨y, hy, rfl⟩ := List.mem_map.mp hx
    exact List.mem_map.mpr ⟨_, getA_mem (alk_mem nf pf e hy), rfl⟩
  have h2 := nodup_sub_length ng (l' := f.map (·.1)) fun x hx => by
    obtain ⟨y, hy, rfl⟩ := List.mem_map.mp hx
    exact List.mem_map.mpr ⟨_, getA_mem (alk_mem ng pg (fun t => (e t).symm) hy), rfl⟩
  simp only [List.length_map] at h1 h2
  omega
theorem nodup_of_keys {f : List (Str × Int)} (h : (f.map (·.1)).Nodup) : f.Nodup := by
  induction f with
  | nil => exact List.nodup_nil
  | cons y f ih =>
    obtain ⟨n1, n2⟩ := List.nodup_cons.mp h
    exact List.nodup_cons.mpr ⟨fun z => n1 (List.mem_map.mpr ⟨y, z, rfl⟩), ih n2⟩
theorem perm_sum {l l' : List Int} (h : l.Perm l') : l.sum = l'.sum := by
  induction h with
  | nil => rfl
  | cons x _ ih => simp [ih]
  | swap x y l => simp; omega
  | trans _ _ a b => exact a.trans b
theorem alk_sum {f g : List (Str × Int)} (nf : (f.map (·.1)).Nodup) (ng : (g.map (·.1)).Nodup) (pf : Pos f) (pg : Pos g) (e : Alk f g) : (f.map (·.2)).sum = (g.map (·.2)).sum := by
  have p : f.Perm g := (List.perm_ext_iff_of_nodup (nodup_of_keys nf) (nodup_of_keys ng)).mpr fun y => ⟨fun h => getA_mem (alk_mem nf pf e h), fun h => getA_mem (alk_mem ng pg (fun t => (e t).symm) h)⟩
  exact perm_sum (p.map _)
/-! what stands behind each name -/
theorem getA_append {α : Type} (l l' : List (Str × α)) (s : Str) : getA (l ++ l') s = match getA l s with | some v => some v | none => getA l' s := by
  induction l with
  | nil => rfl
  | cons y l ih =>
    rw [List.cons_append, getA_cons, getA_cons, ih]
    by_cases e : y.1 = s
    · rw [if_pos e, if_pos e]
    · rw [if_neg e, if_neg e]
theorem led_more : ∀ (xs : List PRow) (ls : List (Str × List (Str × Int))), ∃ more, xs.foldl ledStep ls = ls ++ more
  | [], ls => ⟨[], by rw [List.append_nil]; rfl⟩
  | r :: xs, ls => by
    obtain ⟨more, h⟩ := led_more xs (ledStep ls r)
    refine ⟨(r.name, ledTo (ls.map (·.1) ++ [r.name]) ls r.needs) :: more, ?_⟩
    rw [List.foldl_cons, h]
    unfold ledStep
    rw [List.append_assoc]
    rfl
section
variable {rs : List PRow}
theorem ledOf_cut (j : Nat) {s : Str} (h : s ∈ (rs.take j).map (·.name)) : getA (ledOf rs) s = getA (ledOf (rs.take j)) s := by
  obtain ⟨more, e⟩ := led_more (rs.drop j) (ledOf (rs.take j))
  have e2 : ledOf rs = ledOf (rs.take j) ++ more := by
    rw [← e]
    unfold ledOf
    rw [← List.foldl_append, List.take_append_drop]
  obtain ⟨v, hv⟩ := getA_of_mem (l := ledOf (rs.take j)) (s := s) (by rw [ledOf_names]; exact h)
  rw [e2, getA_append, hv]
def ledN (rs : List PRow) (s : Str) : List (Str × Int) := (getA (ledOf rs) s).getD []
theorem fold_congr {g g' : Str → List (Str × Int)} {needs f : List (Str × Int)} (h : ∀ p ∈ needs, g p.1 = g' p.1) : needs.foldl (lawStep g) f = needs.foldl (lawStep g') f := by
  induction needs generalizing f with
  | nil => rfl
  | cons p needs ih =>
    have e : lawStep g f p = lawStep g' f p := by unfold lawStep; rw [h p (.head _)]
    rw [List.foldl_cons, List.foldl_cons, e]
    exact ih fun q hq => h q (.tail _ hq)
theorem ledRaw_eq (names : List Str) (ls : List (Str × List (Str × Int))) (needs : List (Str × Int)) : ledRaw names ls needs = needs.foldl (lawStep fun s => (getA ls s).getD []) (names.map fun s => (s, 0)) := rfl
/-- the row at j -/
theorem GoodBook.ledAt (G : GoodBook rs) {j : Nat} {r : PRow} (h : rs[j]? = some r) : getA (ledOf rs) r.name = some (ledTo ((rs.take (j + 1)).map (·.name)) (ledOf rs) r.needs) := by
  have R := G.row j r h
  have hm : r.name ∈ (rs.take (j + 1)).map (·.name) := by rw [take_succ_map h]; exact List.mem_append_right _ (.head _)
  rw [ledOf_cut (j + 1) hm, ledOf_take h, ledStep, getA_append, getA_none (by rw [ledOf_names]; exact R.new), getA_cons, if_pos rfl]
  have e : ledTo ((ledOf (rs.take j)).map (·.1) ++ [r.name]) (ledOf (rs.take j)) r.needs = ledTo ((rs.take (j + 1)).map (·.name)) (ledOf rs) r.needs := by
    unfold ledTo
    rw [ledRaw_eq, ledRaw_eq, ledOf_names, take_succ_map h]
    congr 1
    exact fold_congr fun p hp => by rw [ledOf_cut j (R.known p hp)]
  rw [e]
theorem led_pos : ∀ p ∈ ledOf rs, Pos p.2 := by
  suffices h : ∀ (xs : List PRow) (ls : List (Str × List (Str × Int))), (∀ p ∈ ls, Pos p.2) → ∀ p ∈ xs.foldl ledStep ls, Pos p.2 from h rs [] (fun _ h => nomatch h)
  intro xs
  induction xs with
  | nil => intro ls h; exact h
  | cons r xs ih =>
    intro ls h
    refine ih _ fun p hp => ?_
    rcases List.mem_append.mp hp with hp | hp
    · exact h p hp
    · rw [List.mem_singleton] at hp
      subst hp
      exact fun y hy => of_decide_eq_true (List.mem_filter.mp hy).2
/-- what a row's needs come to, counted from nothing -/
def total (rs : List PRow) (needs : List (Str × Int)) : List (Str × Int) := needs.foldl (lawStep (ledN rs)) []
theorem led_at (G : GoodBook rs) {s : Str} (h : s ∈ rs.map (·.name)) : getA (ledOf rs) s = some (ledN rs s) ∧ ((ledN rs s).map (·.1)).Nodup ∧ Pos (ledN rs s) ∧ ∀ y ∈ ledN rs s, y.1 ∈ rs.map (·.name) := by
  obtain ⟨m, hm⟩ := getA_of_mem (l := ledOf rs) (s := s) (by rw [ledOf_names]; exact h)
  have e : ledN rs s = m := by unfold ledN; rw [hm]; rfl
  rw [e]
  refine ⟨hm, G.nd.sublist (G.led_all _ (getA_mem hm)), led_pos _ (getA_mem hm), fun y hy => ?_⟩
  exact (G.led_all _ (getA_mem hm)).subset (List.mem_map.mpr ⟨y, hy, rfl⟩)
theorem total_fine (G : GoodBook rs) {needs : List (Str × Int)} (hn : ∀ x ∈ needs, x.1 ∈ rs.map (·.name)) : Fine (rs.map (·.name)) (total rs needs) :=
  lawFold_fine hn (fun p hp => (led_at G (hn p hp)).2.2.2) (Fine.nil _)
theorem total_pos (G : GoodBook rs) {needs : List (Str × Int)} (hn : ∀ x ∈ needs, x.1 ∈ rs.map (·.name)) (hp : Pos needs) : Pos (total rs needs) := fold_pos hp (fun p h => (led_at G (hn p h)).2.2.1) fun _ h => nomatch h
theorem GoodBook.pos (G : GoodBook rs) {j : Nat} {r : PRow} (h : rs[j]? = some r) : Pos r.needs := fun y hy => by have := ((G.row j r h).many y hy).1; omega
theorem GoodBook.known_all (G : GoodBook rs) {j : Nat} {r : PRow} (h : rs[j]? = some r) : ∀ x ∈ r.needs, x.1 ∈ rs.map (·.name) := fun x hx => names_take ((G.row j r h).known x hx)
theorem GoodBook.led_total (G : GoodBook rs) {j : Nat} {r : PRow} (h : rs[j]? = some r) : Alk (ledN rs r.name) (total rs r.needs) := by
  have e : ledN rs r.name = ledTo ((rs.take (j + 1)).map (·.name)) (ledOf rs) r.needs := by unfold ledN; rw [G.ledAt h]; rfl
  have known := G.known_all h
  rw [e]
  have keys := ledRaw_keys (names := (rs.take (j + 1)).map (·.name)) (ls := ledOf rs) (needs := r.needs) fun x hx => ⟨mem_take_names (Nat.le_succ j) ((G.row j r h).known x hx), fun m hm z hz => by
    rw [ledOf_cut j ((G.row j r h).known x hx)] at hm
    exact mem_take_names (Nat.le_succ j) (G.known j _ (getA_mem hm) z hz)⟩
  have nn : Nng (ledRaw ((rs.take (j + 1)).map (·.name)) (ledOf rs) r.needs) := by
    rw [ledRaw_eq]
    refine fold_nng (G.pos h) (fun p hp => (led_at G (known p hp)).2.2.1) fun y hy => ?_
    obtain ⟨s, _, rfl⟩ := List.mem_map.mp hy
    exact Int.le_refl _
  intro t
  unfold ledTo
  rw [filter_alk (by rw [keys]; exact G.nodup _) nn t, ledRaw_eq]
  refine fold_alk (fun p hp => ?_) (fun t => ?_) t
  · obtain ⟨h1, h2, _⟩ := led_at G (known p hp)
    rw [show (getA (ledOf rs) p.1).getD [] = ledN rs p.1 from rfl]
    exact ⟨h2, h2, fun _ => rfl⟩
  · unfold valA
    cases e : getA (((rs.take (j + 1)).map (·.name)).map fun s => ((s, 0) : Str × Int)) t with
    | none => rfl
    | some v =>
      obtain ⟨s, _, hs⟩ := List.mem_map.mp (getA_mem e)
      cases hs
      rfl
/-- the law's own count of some needs -/
theorem lawLed_total (G : GoodBook rs) : ∀ (n : Nat) (needs : List (Str × Int)), (∀ x ∈ needs, x.1 ∈ (rs.take n).map (·.name)) → Alk (lawLed rs n needs) (total rs needs)
  | 0, needs, h => by
    cases needs with
    | nil => exact fun _ => rfl
    | cons p needs => have := h p (.head _); cases this
  | n + 1, needs, h => by
    refine fold_alk (fun p hp => ?_) fun _ => rfl
    obtain ⟨r, hr, e, _, hn, _⟩ := G.at (h p hp)
    obtain ⟨j, hj⟩ := List.getElem?_of_mem hr
    rw [← e, needsOf_row G hr]
    refine ⟨(lawLed_fine G n r.needs hn).nd, ?_, fun t => ?_⟩
    · rw [e]; exact (led_at G (names_take (h p hp))).2.1
    · rw [lawLed_total G n r.needs hn t, G.led_total hj t]
theorem lawLed_pos (G : GoodBook rs) : ∀ (n : Nat) (needs : List (Str × Int)), (∀ x ∈ needs, x.1 ∈ (rs.take n).map (·.name)) → Pos needs → Pos (lawLed rs n needs)
  | 0, _, _, _ => fun _ h => nomatch h
  | n + 1, needs, h, hp => by
    refine fold_pos hp (fun p hq => ?_) fun _ h => nomatch h
    obtain ⟨r, hr, e, _, hn, hb, _⟩ := G.at (h p hq)
    rw [← e, needsOf_row G hr]
    exact lawLed_pos G n r.needs hn fun y hy => by have := (hb y hy).1; omega
end
end PM

/-! a book grows -/
namespace PM
open PySem L2
section
variable {rs : List PRow}
theorem ledTo_total (G : GoodBook rs) {nm : Str} (hnm : nm ∉ rs.map (·.name)) {needs : List (Str × Int)} (hn : ∀ x ∈ needs, x.1 ∈ rs.map (·.name)) (hp : Pos needs) :
    ((ledTo ((ledOf rs).map (·.1) ++ [nm]) (ledOf rs) needs).map (·.1)).Nodup ∧ Pos (ledTo ((ledOf rs).map (·.1) ++ [nm]) (ledOf rs) needs) ∧ Alk (ledTo ((ledOf rs).map (·.1) ++ [nm]) (ledOf rs) needs) (total rs needs) := by
  rw [ledOf_names]
  have hk : ∀ x ∈ needs, x.1 ∈ rs.map (·.name) ++ [nm] ∧ ∀ m, getA (ledOf rs) x.1 = some m → ∀ y ∈ m, y.1 ∈ rs.map (·.name) ++ [nm] := fun x hx => ⟨List.mem_append_left _ (hn x hx), fun m hm z hz => List.mem_append_left _ ((G.led_all _ (getA_mem hm)).subset (List.mem_map.mpr ⟨z, hz, rfl⟩))⟩
  have keys := ledRaw_keys hk
  have nd : (rs.map (·.name) ++ [nm]).Nodup := by
    refine List.nodup_append.mpr ⟨G.nd, List.nodup_cons.mpr ⟨(by simp), List.nodup_nil⟩, ?_⟩
    intro a ha b hb hab
    rw [List.mem_singleton] at hb
    subst hb hab
    exact hnm ha
  have nn : Nng (ledRaw (rs.map (·.name) ++ [nm]) (ledOf rs) needs) := by
    rw [ledRaw_eq]
    refine fold_nng hp (fun p hp => (led_at G (hn p hp)).2.2.1) fun y hy => ?_
    obtain ⟨s, _, rfl⟩ := List.mem_map.mp hy
    exact Int.le_refl _
  refine ⟨nd.sublist (ledTo_sub hk), fun y hy => of_decide_eq_true (List.mem_filter.mp hy).2, fun t => ?_⟩
  unfold ledTo
  rw [filter_alk (by rw [keys]; exact nd) nn t, ledRaw_eq]
  refine fold_alk (fun p hp => ?_) (fun t => ?_) t
  · obtain ⟨h1, h2, _⟩ := led_at G (hn p hp)
    rw [show (getA (ledOf rs) p.1).getD [] = ledN rs p.1 from rfl]
    exact ⟨h2, h2, fun _ => rfl⟩
  · unfold valA
    cases e : getA ((rs.map (·.name) ++ [nm]).map fun s => ((s, 0) : Str × Int)) t with
    | none => rfl
    | some v =>
      obtain ⟨s, _, hs⟩ := List.mem_map.mp (getA_mem e)
      cases hs
      rfl
theorem GoodBook.snoc (G : GoodBook rs) (h12 : rs.length < 12) {r : PRow} (R : GoodRow (rs.map (·.name)) r) {n : Nat} (hn : rs.length ≤ n) (hs : ((lawLed rs n r.needs).map (·.2)).sum ≤ 200) : GoodBook (rs ++ [r]) := by
  have hp : Pos r.needs := fun y hy => by have := (R.many y hy).1; omega
  have hk : ∀ x ∈ r.needs, x.1 ∈ (rs.take n).map (·.name) := fun x hx => by rw [List.take_of_length_le hn]; exact R.known x hx
  obtain ⟨q1, q2, q3⟩ := ledTo_total G R.new R.known hp
  have es : ((ledTo ((ledOf rs).map (·.1) ++ [r.name]) (ledOf rs) r.needs).map (·.2)).sum = ((lawLed rs n r.needs).map (·.2)).sum :=
    alk_sum q1 (lawLed_fine G n r.needs hk).nd q2 (lawLed_pos G n r.needs hk hp) fun t => by rw [q3 t, lawLed_total G n r.needs hk t]
  refine ⟨by rw [List.length_append, List.length_singleton]; omega, fun i x hi => ?_, fun p hp => ?_⟩
  · by_cases h : i < rs.length
    · rw [List.getElem?_append_left h] at hi
      rw [List.take_append_of_le_length (by omega)]
      exact G.row i x hi
    · have : i = rs.length := by
        have := (List.getElem?_eq_some_iff.mp hi).1
        rw [List.length_append, List.length_singleton] at this
        omega
      subst this
      rw [List.getElem?_append_right (Nat.le_refl _), Nat.sub_self] at hi
      cases hi
      rw [List.take_left]
      exact R
  · rw [ledOf_snoc] at hp
    rcases List.mem_append.mp hp with hp | hp
    · exact G.led p hp
    · rw [List.mem_singleton] at hp
      subst hp
      rw [es]
      exact hs
theorem GoodBook.nil : GoodBook [] := ⟨by decide, fun i r h => by simp at h, fun p h => nomatch h⟩
/-- a book cut -/
theorem GoodBook.cut (G : GoodBook rs) (n : Nat) : GoodBook (rs.take n) := by
  refine ⟨by have := G.len; rw [List.length_take]; omega, fun i r hi => ?_, fun p hp => G.led p (ledOf_sub n p hp)⟩
  have hin : i < n := by
    have := (List.getElem?_eq_some_iff.mp hi).1
    rw [List.length_take] at this
    omega
  rw [List.getElem?_take_of_lt hin] at hi
  rw [List.take_take, Nat.min_eq_left (Nat.le_of_lt hin)]
  exact G.row i r hi
end
/-- the law's names -/
abbrev signs12 : Str := "abcdefghijkl"
def nameAt (k : Nat) : Str := ("p" : Str) ++ ⟨#[signs12.cps.toList.getD k 0]⟩
theorem nameAt_ok : ∀ k : Fin 12, isNameM (nameAt k) = true := by decide +kernel
theorem nameAt_ne : ∀ i j : Fin 12, nameAt i = nameAt j → i = j := by decide +kernel
/-- the books the law makes -/
structure MyBook (rs : List PRow) : Prop where
  good : GoodBook rs
  names : ∀ i r, rs[i]? = some r → r.name = nameAt i
theorem MyBook.new {rs : List PRow} (M : MyBook rs) (h : rs.length < 12) : nameAt rs.length ∉ rs.map (·.name) := by
  intro z
  obtain ⟨r, hr, e⟩ := List.mem_map.mp z
  obtain ⟨i, hi⟩ := List.getElem?_of_mem hr
  have hl := (List.getElem?_eq_some_iff.mp hi).1
  rw [M.names i r hi] at e
  have := nameAt_ne ⟨i, by omega⟩ ⟨rs.length, h⟩ e
  have := Fin.mk.inj this
  omega
theorem MyBook.snoc {rs : List PRow} (M : MyBook rs) (h12 : rs.length < 12) {r : PRow} (hr : r.name = nameAt rs.length) (lot : 1 ≤ r.lot ∧ r.lot ≤ 99) (lead : 0 ≤ r.lead ∧ r.lead ≤ 30) (nd : (r.needs.map (·.1)).Nodup) (known : ∀ x ∈ r.needs, x.1 ∈ rs.map (·.name))
    (many : ∀ x ∈ r.needs, 1 ≤ x.2 ∧ x.2 ≤ 9) (few : r.steps.length ≤ 5) (steps : ∀ x ∈ r.steps, (0 ≤ x.1 ∧ x.1 < 6) ∧ 1 ≤ x.2 ∧ x.2 ≤ 99) {n : Nat} (hn : rs.length ≤ n) (hs : ((lawLed rs n r.needs).map (·.2)).sum ≤ 200) : MyBook (rs ++ [r]) := by
  refine ⟨M.good.snoc h12 ⟨by rw [hr]; exact nameAt_ok ⟨rs.length, h12⟩, by rw [hr]; exact M.new h12, lot, lead, nd, known, many, few, steps⟩ hn hs, fun i x hi => ?_⟩
  by_cases h : i < rs.length
  · rw [List.getElem?_append_left h] at hi
    exact M.names i x hi
  · have : i = rs.length := by
      have := (List.getElem?_eq_some_iff.mp hi).1
      rw [List.length_append, List.length_singleton] at this
      omega
    subst this
    rw [List.getElem?_append_right (Nat.le_refl _), Nat.sub_self] at hi
    cases hi
    exact hr
structure NsOk (rs : List PRow) (ns : List (Str × Int)) : Prop where
  nd : (ns.map (·.1)).Nodup
  known : ∀ x ∈ ns, x.1 ∈ rs.map (·.name)
  many : ∀ x ∈ ns, 1 ≤ x.2 ∧ x.2 ≤ 9
theorem NsOk.nil (rs : List PRow) : NsOk rs [] := ⟨List.nodup_nil, (fun _ h => nomatch h), (fun _ h => nomatch h)⟩
theorem NsOk.rev {rs : List PRow} {ns : List (Str × Int)} (h : NsOk rs ns) : NsOk rs ns.reverse := ⟨by rw [List.map_reverse]; exact (List.reverse_perm _).nodup_iff.mpr h.nd, fun x hx => h.known x (List.mem_reverse.mp hx), fun x hx => h.many x (List.mem_reverse.mp hx)⟩
theorem NsOk.len {rs : List PRow} {ns : List (Str × Int)} (h : NsOk rs ns) : ns.length ≤ rs.length := by
  have := nodup_sub_length h.nd (l' := rs.map (·.name)) fun x hx => by
    obtain ⟨y, hy, rfl⟩ := List.mem_map.mp hx
    exact h.known y hy
  simpa using this
def StOk (st : List (Int × Int)) : Prop := st.length ≤ 5 ∧ ∀ x ∈ st, (0 ≤ x.1 ∧ x.1 < 6) ∧ 1 ≤ x.2 ∧ x.2 ≤ 99
end PM

/-! what the law asks -/
namespace PM
open PySem L2
section
variable {rs : List PRow}
theorem nameAt_shp : ∀ k : Fin 12, (nameAt k).cps.all (· < 0x110000) = true := by decide +kernel
theorem MyBook.shp (M : MyBook rs) {z : Str} (h : z ∈ rs.map (·.name)) : z.cps.all (· < 0x110000) = true := by
  obtain ⟨r, hr, rfl⟩ := List.mem_map.mp h
  obtain ⟨i, hi⟩ := List.getElem?_of_mem hr
  rw [M.names i r hi]
  have := (List.getElem?_eq_some_iff.mp hi).1
  have := M.good.len
  exact nameAt_shp ⟨i, by omega⟩
theorem led_get (G : GoodBook rs) {j : Nat} {r : PRow} (h : rs[j]? = some r) : (ledOf rs)[j]? = some (r.name, ledN rs r.name) := by
  have e1 : ((ledOf rs).map (·.1))[j]? = some r.name := by rw [ledOf_names, List.getElem?_map, h]; rfl
  rw [List.getElem?_map] at e1
  obtain ⟨y, hy, e⟩ := Option.map_eq_some_iff.mp e1
  have nd : ((ledOf rs).map (·.1)).Nodup := by rw [ledOf_names]; exact G.nd
  have h2 := getA_nodup (List.mem_of_getElem? hy) nd
  have h3 : ledN rs r.name = y.2 := by unfold ledN; rw [← e, h2]; rfl
  rw [hy, h3, ← e]
theorem total_before (G : GoodBook rs) {j : Nat} {r : PRow} (h : rs[j]? = some r) : Fine ((rs.take j).map (·.name)) (total rs r.needs) := by
  have R := G.row j r h
  refine lawFold_fine R.known (fun p hp y hy => ?_) (Fine.nil _)
  have h1 : p.1 ∈ (rs.take j).map (·.name) := R.known p hp
  have e := (led_at G (names_take h1)).1
  rw [ledOf_cut j h1] at e
  exact G.known j _ (getA_mem e) y hy
theorem led_before (G : GoodBook rs) {j : Nat} {r : PRow} (h : rs[j]? = some r) {y : Str × Int} (hy : y ∈ ledN rs r.name) : y.1 ∉ (rs.map (·.name)).drop j := by
  obtain ⟨_, h2, h3, _⟩ := led_at G (s := r.name) (List.mem_map.mpr ⟨r, List.mem_of_getElem? h, rfl⟩)
  have hm := getA_mem (alk_mem h2 h3 (G.led_total h) hy)
  have hin := (total_before G h).sub _ hm
  intro z
  have nd := G.nd
  rw [← List.take_append_drop j (rs.map (·.name))] at nd
  rw [List.map_take] at hin
  exact (List.nodup_append.mp nd).2.2 _ hin _ z rfl
theorem led_same (G : GoodBook rs) {j : Nat} {r : PRow} (h : rs[j]? = some r) : (kvI (ledN rs r.name)).length = (kvI (total rs r.needs)).length ∧ ∀ p ∈ kvI (ledN rs r.name), valV (kvI (total rs r.needs)) p.1 = some p.2 ∧ flatB p.2 = true := by
  obtain ⟨_, h2, h3, _⟩ := led_at G (s := r.name) (List.mem_map.mpr ⟨r, List.mem_of_getElem? h, rfl⟩)
  refine ⟨?_, fun p hp => ?_⟩
  · rw [List.length_map, List.length_map]
    exact alk_len h2 (total_before G h).nd h3 (total_pos G (G.known_all h) (G.pos h)) (G.led_total h)
  · obtain ⟨y, hy, rfl⟩ := List.mem_map.mp hp
    rw [valV_kvI, alk_mem h2 h3 (G.led_total h) hy]
    exact ⟨rfl, rfl⟩
theorem one_enc (m : List (Str × Int)) : (m.map fun p => encNeed (p.1, 1 * p.2)) = m.map fun p => PyData.tuple [.str p.1, .int p.2] := by
  refine List.map_congr_left fun p _ => ?_
  show PyData.tuple [.str p.1, .int (1 * p.2)] = _
  rw [Int.one_mul]
end
end PM

namespace PM
open PySem L2 WK
abbrev row13 (st : List (Int × Int)) : PRow := ⟨"a", [], st, 1, 0⟩
theorem good13 {st : List (Int × Int)} (h1 : st.length ≤ 5) (h2 : ∀ x ∈ st, (0 ≤ x.1 ∧ x.1 < 6) ∧ 1 ≤ x.2 ∧ x.2 ≤ 99) : GoodBook [row13 st] := Bare.book ⟨show isNameM "a" = true by decide +kernel, show (1 : Int) ≤ 1 ∧ (1 : Int) ≤ 99 by decide, show (0 : Int) ≤ 0 ∧ (0 : Int) ≤ 30 by decide, h1, h2, rfl⟩
/-- the floor as the law tells it -/
structure K13 (st : List (Int × Int)) (rates : List Int) (s : Fl) (z : Str) (at_ due : Int) : Prop where
  rs : s.rs = [row13 st]
  rates : s.rates = rates
  pc : ∃ p, s.pcs = [p] ∧ p.part = "a" ∧ p.state = z ∧ p.at_ = at_ ∧ p.cost = due
  spent : s.spent = due
  z : (z = "making" ∧ 0 ≤ at_ ∧ at_ < st.length) ∨ z = "made" ∨ z = "stock" ∨ z = "bad"
theorem K13.row {st rates s z a d} (h : K13 st rates s z a d) : rowOf s.rs "a" = some (row13 st) := by
  rw [h.rs]
  rfl
theorem K13.begin_ {st : List (Int × Int)} {rates : List Int} (h : st ≠ []) : K13 st rates ((Fl.new [row13 st] rates).begin_ "a" st.isEmpty []) "making" 0 0 := by
  have h0 : st.isEmpty = false := by cases st with
    | nil => exact absurd rfl h
    | cons => rfl
  have hl : 0 < st.length := List.length_pos_iff.mpr h
  rw [h0]
  exact ⟨rfl, rfl, ⟨_, rfl, rfl, rfl, rfl, rfl⟩, rfl, .inl ⟨rfl, Int.le_refl _, by omega⟩⟩
theorem K13.work {st rates s z a d} {p : Pc} {c : Int} (h : K13 st rates s z a d) (hz : z = "making") (hp : s.pcs = [p]) : K13 st rates (s.work 0 p c st.length) (if a + 1 = (st.length : Int) then "made" else "making") (a + 1) (d + c) := by
  obtain ⟨p', h1, h2, h3, h4, h5⟩ := h.pc
  rw [hp] at h1
  cases h1
  refine ⟨h.rs, h.rates, ⟨p.work c st.length, by show s.pcs.set 0 _ = _; rw [hp]; rfl, h2, ?_, by show p.at_ + 1 = _; rw [h4], by show p.cost + c = _; rw [h5]⟩, by show s.spent + c = _; rw [h.spent], ?_⟩
  · show (if p.at_ + 1 = (st.length : Int) then _ else p.state) = _
    rw [h4, h3, hz]
  · by_cases e : a + 1 = (st.length : Int)
    · rw [if_pos e]
      exact .inr (.inl rfl)
    · rw [if_neg e]
      rcases h.z with ⟨_, h6, h7⟩ | h6 | h6 | h6
      · exact .inl ⟨rfl, by omega, by omega⟩
      all_goals
        rw [hz] at h6
        exact absurd h6 (by decide)
theorem K13.put {st rates s z a d} {p : Pc} {z' : Str} {a' : Int} {dd : Deed} (h : K13 st rates s z a d) (hp : s.pcs = [p]) (q : Pc) (e1 : q.part = p.part) (e2 : q.state = z') (e3 : q.at_ = a') (e4 : q.cost = p.cost) (hz : (z' = "making" ∧ 0 ≤ a' ∧ a' < st.length) ∨ z' = "made" ∨ z' = "stock" ∨ z' = "bad") : K13 st rates (s.put 0 q dd) z' a' d := by
  obtain ⟨p', h1, h2, h3, h4, h5⟩ := h.pc
  rw [hp] at h1
  cases h1
  exact ⟨h.rs, h.rates, ⟨q, by show s.pcs.set 0 _ = _; rw [hp]; rfl, e1.trans h2, e2, e3, e4.trans h5⟩, h.spent, hz⟩
theorem K13.hand {st rates s z a d} (h : K13 st rates s z a d) (hne : st ≠ []) : (if isBought s.rs "a" = true then ((s.lots.filter fun x => decide (x.part = ("a" : Str))).map (·.left)).sum else ((stockOf s.pcs "a").length : Int)) = (if decide (z = "stock") = true then (1 : Int) else 0) := by
  obtain ⟨p, h1, h2, h3, h4, h5⟩ := h.pc
  have hb : isBought s.rs "a" = false := by
    unfold isBought
    rw [h.row]
    cases st with
    | nil => exact absurd rfl hne
    | cons => rfl
  rw [hb, if_neg (by decide)]
  unfold stockOf
  rw [h1]
  by_cases e : z = "stock"
  · simp [h2, h3, e]
  · simp [h2, h3, e]
end PM

local macro_rules | `(tactic| kts_caughtN) => `(tactic| first
  | with_reducible assumption
  | ((with_reducible refine' WK.Ex.ap ?kx ?ky); (case kx => with_reducible assumption); (case ky => kts_caughtN))
  | ((with_reducible refine' WK.Ex.sqL ?kx ?ky); (case kx => with_reducible assumption); (case ky => kts_caughtN))
  | ((with_reducible refine' WK.Ex.sqT ?kx ?ky); (case kx => with_reducible assumption); (case ky => kts_caughtN))
  | ((with_reducible refine' L2.Dp.up ?kx ?ky); (case kx => with_reducible assumption); (case ky => kts_caughtN))
  | ((with_reducible refine' WK.Dpl.up ?kx ?ky); (case kx => with_reducible assumption); (case ky => kts_caughtN))
  | ((with_reducible refine' L2.DpAll.up ?kx ?ky); (case kx => with_reducible assumption); (case ky => kts_caughtN)))
local macro_rules | `(tactic| nest_cls) => `(tactic| first
  | with_reducible exact WK.mF
  | with_reducible exact WK.mFl
  | with_reducible exact WK.mFp
  | with_reducible exact WK.mFn
  | ((with_reducible refine' WK.mFpc ?kz); (case kz => with_reducible assumption))
  | ((with_reducible refine' WK.mFpl ?kz); (case kz => with_reducible assumption))
  | ((with_reducible refine' WK.mFpp ?kz); (case kz => with_reducible assumption))
  | ((with_reducible refine' WK.mFpcE ?kz ?ke); (case kz => with_reducible assumption); (case ke => exact rfl))
  | ((with_reducible refine' WK.mFplE ?kz ?ke); (case kz => with_reducible assumption); (case ke => exact rfl))
  | ((with_reducible refine' WK.mFppE ?kz ?ke); (case kz => with_reducible assumption); (case ke => exact rfl))
  | ((with_reducible refine' WK.mFlot ?kz); (case kz => with_reducible assumption))
  | mem_news
  | ((with_reducible refine' List.Mem.tail _ ?kz); (case kz => nest_cls)))
local macro_rules | `(tactic| kts_caught) => `(tactic| first
  | with_reducible assumption
  | ((with_reducible refine' WK.Ok.mem ?kx ?ky); (case kx => with_reducible assumption); (case ky => nest_cls))
  | ((with_reducible refine' WK.Ok.sqMem ?kx ?ky); (case kx => with_reducible assumption); (case ky => nest_cls))
  | ((with_reducible refine' WK.Ok.sqStay ?kx ?ky); (case kx => with_reducible assumption); (case ky => kts_caughtN))
  | ((with_reducible refine' WK.Ok.sqB ?kx ?ky); (case kx => with_reducible assumption); (case ky => kts_caughtN))
  | ((with_reducible refine' WK.Ok.tqStay ?kx ?ky); (case kx => with_reducible assumption); (case ky => kts_caughtN))
  | ((with_reducible refine' WK.Ok.tqB ?kx ?ky); (case kx => with_reducible assumption); (case ky => kts_caughtN))
  | ((with_reducible refine' WK.Ok.stay ?kx ?ky); (case kx => with_reducible assumption); (case ky => kts_caughtN))
  | ((with_reducible refine' WK.Ok.dp ?kx ?ky); (case kx => with_reducible assumption); (case ky => kts_caughtN))
  | ((with_reducible refine' WK.Ok.rdMem ?kx ?ky); (case kx => with_reducible assumption); (case ky => nest_cls))
  | ((with_reducible refine' WK.Ok.rdMemF ?kx ?ky); (case kx => with_reducible assumption); (case ky => nest_cls))
  | ((with_reducible refine' WK.Ok.rdStayF ?kx ?ky); (case kx => with_reducible assumption); (case ky => kts_caughtN))
  | ((with_reducible refine' WK.Ok.rdStay ?kx ?ky); (case kx => with_reducible assumption); (case ky => kts_caughtN))
  | ((with_reducible refine' WK.Ok.kept ?kx ?ky); (case kx => with_reducible assumption); (case ky => with_reducible assumption))
  | ((with_reducible refine' WK.Ok.keptRd ?kx ?ky); (case kx => with_reducible assumption); (case ky => with_reducible assumption)))
local macro_rules | `(tactic| nest_room) => `(tactic| first
  | with_reducible assumption
  | with_reducible exact WK.Ex.refl _
  | ((with_reducible refine' WK.Ex.trans ?kx ?ky); (case ky => with_reducible assumption); (case kx => nest_room)))
local macro_rules | `(tactic| nest_fact) => `(tactic| first
  | with_reducible assumption
  | ((with_reducible refine' L2.Dp.up ?kx ?ky); (case ky => with_reducible assumption); (case kx => nest_room))
  | ((with_reducible refine' L2.DpAll.up ?kx ?ky); (case ky => with_reducible assumption); (case kx => nest_room))
  | ((with_reducible refine' WK.Dpl.up ?kx ?ky); (case ky => with_reducible assumption); (case kx => nest_room))
  | ((with_reducible refine' WK.Ex.ap ?kx ?ky); (case ky => with_reducible assumption); (case kx => nest_room))
  | ((with_reducible refine' WK.Ex.sqL ?kx ?ky); (case ky => with_reducible assumption); (case kx => nest_room))
  | ((with_reducible refine' WK.Ex.sqT ?kx ?ky); (case ky => with_reducible assumption); (case kx => nest_room))
  | nest_room)
local macro_rules | `(tactic| tb_rel) => `(tactic| first
  | ((with_reducible show WK.OpU _ _ _ _ _ _ _ _); first
    | ((with_reducible show WK.OpU _ _ _ (PySem.binaryOp PySem.Operator.Add) (L2.V.int _) (L2.V.int _) _ _); refine' WK.v_add ?_)
    | ((with_reducible show WK.OpU _ _ _ (PySem.binaryOp PySem.Operator.Sub) (L2.V.int _) (L2.V.int _) _ _); refine' WK.v_sub ?_)
    | ((with_reducible show WK.OpU _ _ _ (PySem.binaryOp PySem.Operator.Mult) (L2.V.int _) (L2.V.int _) _ _); (refine' WK.v_mul ?k1 ?_); (case k1 => first | exact Or.inr ⟨by decide, by decide⟩ | exact Or.inl ⟨by decide, by decide⟩ | exact Or.inr ⟨by omega, by omega⟩ | exact Or.inl ⟨by omega, by omega⟩))
    | ((with_reducible show WK.OpU _ _ _ (PySem.binaryOp PySem.Operator.Mod) (L2.V.int _) (L2.V.int _) _ _); (refine' WK.v_mod ?k1 ?_); (case k1 => first | decide | omega | (simp only [List.length_map, List.length_append, List.length_cons, List.length_nil, List.length_set]; omega)))
    | ((with_reducible show WK.OpU _ _ _ (PySem.binaryOp PySem.Operator.FloorDiv) (L2.V.int _) (L2.V.int _) _ _); (refine' WK.v_fdiv ?k1 ?_); (case k1 => first | exact ⟨by decide, by decide⟩ | exact ⟨by omega, by omega⟩ | exact ⟨by simp only [List.length_map]; omega, by simp only [List.length_map]; omega⟩))
    | ((with_reducible show WK.OpU _ _ _ (PySem.binaryOp PySem.Operator.Pow) (L2.V.int _) (L2.V.int _) _ _); (refine' WK.v_pow ?k1 ?_); (case k1 => exact ⟨by decide, by decide, by decide⟩))
    | ((with_reducible show WK.OpU _ _ _ (PySem.compareOp PySem.CmpOp.Lt) (L2.V.int _) (L2.V.int _) _ _); refine' WK.v_lt ?_)
    | ((with_reducible show WK.OpU _ _ _ (PySem.compareOp PySem.CmpOp.LtE) (L2.V.int _) (L2.V.int _) _ _); refine' WK.v_le ?_)
    | ((with_reducible show WK.OpU _ _ _ (PySem.compareOp PySem.CmpOp.Gt) (L2.V.int _) (L2.V.int _) _ _); refine' WK.v_gt ?_)
    | ((with_reducible show WK.OpU _ _ _ (PySem.compareOp PySem.CmpOp.GtE) (L2.V.int _) (L2.V.int _) _ _); refine' WK.v_ge ?_)
    | ((with_reducible show WK.OpU _ _ _ (PySem.compareOp PySem.CmpOp.Eq) (L2.V.int _) (L2.V.int _) _ _); refine' WK.v_eqI ?_)
    | ((with_reducible show WK.OpU _ _ _ (PySem.compareOp PySem.CmpOp.Eq) (L2.V.str _) (L2.V.str _) _ _); refine' WK.v_eqS ?_)
    | ((with_reducible show WK.OpU _ _ _ (PySem.compareOp PySem.CmpOp.NotEq) (L2.V.int _) (L2.V.int _) _ _); refine' WK.v_neI ?_)
    | ((with_reducible show WK.OpU _ _ _ (PySem.compareOp PySem.CmpOp.NotEq) (L2.V.str _) (L2.V.str _) _ _); refine' WK.v_neS ?_)
    | ((with_reducible show WK.OpU _ _ _ (PySem.compareOp PySem.CmpOp.In) (L2.V.str (PySem.Str.mk (Array.mk [_]))) (L2.V.str _) _ _); refine' WK.v_inSign ?_)
    | ((with_reducible show WK.OpU _ _ _ (PySem.compareOp PySem.CmpOp.In) (L2.V.str _) (L2.V.ref _) _ _); (refine' WK.v_inDS ?k1 ?_); (case k1 => kts_caught))
    | ((with_reducible show WK.OpU _ _ _ (PySem.compareOp PySem.CmpOp.NotIn) (L2.V.str _) (L2.V.ref _) _ _); (refine' WK.v_notInDS ?k1 ?_); (case k1 => kts_caught)))
  | ((with_reducible show WK.IxU _ _ _ (L2.V.ref _) (L2.V.int _) _ _); (refine' WK.v_ixL ?k1 ?k2 ?_); (case k1 => kts_caught); (case k2 => exact rfl))
  | ((with_reducible show WK.IxU _ _ _ (L2.V.ref _) (L2.V.int _) _ _); (refine' WK.v_ixT ?k1 ?k2 ?_); (case k1 => kts_caught); (case k2 => exact rfl))
  | ((with_reducible show WK.FldQ _ _ _ (L2.V.ref _) _); (refine' WK.fldQ ?k1 ?k2 ?k3 ?k4 ?_); (case k1 => kts_caught); (case k2 => with_reducible assumption); (case k3 => with_reducible assumption); (case k4 => exact rfl))
  | ((with_reducible show WK.MetU _ _ _ "dict.get" (L2.V.ref _) [L2.V.str _, _] _ _); (refine' WK.v_get2S ?k1 ?_); (case k1 => kts_caught))
  | ((with_reducible show WK.IpU _ _ _ PySem.Operator.Add (L2.V.int _) (L2.V.int _) _ _); refine' WK.v_ipAdd ?_)
  | ((with_reducible show WK.IpU _ _ _ PySem.Operator.Sub (L2.V.int _) (L2.V.int _) _ _); refine' WK.v_ipSub ?_)
  | ((with_reducible show WK.CallU _ _ _ (PySem.Value.builtin "len") [L2.V.str _] _ _); (refine' WK.v_lenS ?k1 ?_); (case k1 => first | with_reducible assumption | (rw [PySem.sizeLine_eq]; omega) | (simp only [PySem.sizeLine_eq]; omega)))
  | ((with_reducible show WK.CallU _ _ _ (PySem.Value.builtin "len") [_] _ _); (refine' WK.v_lenDL ?k1 ?k2 ?_); (case k1 => with_reducible assumption); (case k2 => kts_caughtN))
  | ((with_reducible show WK.CallU _ _ _ (PySem.Value.builtin "len") [_] _ _); (refine' WK.v_lenDT ?k1 ?k2 ?_); (case k1 => with_reducible assumption); (case k2 => kts_caughtN))
  | ((with_reducible show WK.CallU _ _ _ (PySem.Value.builtin "len") [_] _ _); (refine' WK.v_lenDW ?k1 ?k2 ?_); (case k1 => with_reducible assumption); (case k2 => kts_caughtN))
  | ((with_reducible show WK.CallU _ _ _ (PySem.Value.builtin "len") [L2.V.ref _] _ _); (refine' WK.v_lenL ?k1 ?_); (case k1 => kts_caught))
  | ((with_reducible show WK.CallU _ _ _ (PySem.Value.builtin "len") [L2.V.ref _] _ _); (refine' WK.v_lenT ?k1 ?_); (case k1 => kts_caught))
  | ((with_reducible show WK.CallU _ _ _ (PySem.Value.builtin "max") [L2.V.int _, L2.V.int _] _ _); refine' WK.v_max2 ?_)
  | ((with_reducible show WK.CallU _ _ _ (PySem.Value.builtin "min") [L2.V.int _, L2.V.int _] _ _); refine' WK.v_min2 ?_))
local macro_rules | `(tactic| tb_start) => `(tactic| first
  | ((with_reducible show L2.tVar _ _ _ _); (refine' WK.r_var ?hh ?_); (case hh => exact rfl))
  | ((with_reducible show L2.tC _ _ _ _); refine' WK.r_c ?_)
  | ((with_reducible show L2.tOp _ _ _ _ _ _); refine' WK.r_op ?_)
  | ((with_reducible show L2.tCons _ _ _ _ _); refine' WK.r_cons ?_)
  | ((with_reducible show L2.tNil _ _ _); refine' WK.r_nil ?_)
  | ((with_reducible show L2.tCB _ _ _ _ _); refine' WK.r_cb ?_)
  | ((with_reducible show L2.tSeq _ _ _ _ _); refine' WK.r_seq ?_)
  | ((with_reducible show L2.tAsg _ _ _ _ _); refine' WK.r_asg ?_)
  | ((with_reducible show L2.gName _ _ _ _ _); (apply WK.r_nameS); (case h => repeat (first | exact WK.SlotSet.zero | apply WK.SlotSet.succ)))
  | ((with_reducible show WK.tMth _ _ _ _ _ _ _ _); refine' WK.r_mth ?_)
  | ((with_reducible show WK.MthQ _ _ _ _ _ _ (L2.V.ref _) _); (refine' WK.mthQ ?k1 ?k2 ?_); (case k1 => kts_caught); (case k2 => exact rfl))
  | ((with_reducible show WK.tMk _ _ _ _ _ _); refine' WK.r_mk ?_)
  | ((with_reducible show WK.tSumVals _ _ _ _); refine' WK.r_sumVals ?_)
  | ((with_reducible show L2.tBM _ _ _ _ _ _ _ _); refine' WK.r_bm ?_)
  | ((with_reducible show L2.tBM0 _ _ _ _ _ _ _); refine' WK.r_bm0 ?_)
  | ((with_reducible show WK.BmQ _ "str" _ _ _ _ (L2.V.str _) _); refine' WK.bmS ?_)
  | ((with_reducible show WK.BmQ _ "list" _ _ _ _ (L2.V.ref _) _); (refine' WK.bmL ?k1 ?_); (case k1 => kts_caught))
  | ((with_reducible show WK.BmQ _ "dict" _ _ _ _ (L2.V.ref _) _); (refine' WK.bmD ?k1 ?_); (case k1 => kts_caught))
  | ((with_reducible show WK.tFrzA _ _ _ _); refine' WK.r_frzA ?_)
  | ((with_reducible show L2.tRevL _ _ _ _ _); refine' WK.r_revL ?_)
  | ((with_reducible show L2.tTest _ _ _ _); refine' WK.r_test ?_)
  | ((with_reducible show L2.tB _ _ _ _); refine' WK.r_B ?_)
  | ((with_reducible show WK.BlQ _ (L2.V.bl _) _); refine' WK.r_bl ?_)
  | ((with_reducible show L2.tIfS _ _ _ _ _ _); refine' WK.r_ifS ?_)
  | ((with_reducible show L2.tRet _ _ _ _); refine' WK.r_ret ?_)
  | ((with_reducible show L2.tRetN _ _ _); refine' WK.r_retN ?_)
  | ((with_reducible show L2.tNext _ _ _); refine' WK.r_next ?_)
  | ((with_reducible show L2.tDrop _ _ _ _); refine' WK.r_drop ?_)
  | ((with_reducible show L2.tAnd _ _ _ _ _); refine' WK.r_and ?_)
  | ((with_reducible show L2.tOr _ _ _ _ _); refine' WK.r_or ?_)
  | ((with_reducible show L2.tNot _ _ _ _); refine' WK.r_not ?_)
  | ((with_reducible show L2.tAndV _ _ _ _ _); refine' WK.r_andV ?_)
  | ((with_reducible show L2.tOrV _ _ _ _ _); refine' WK.r_orV ?_)
  | ((with_reducible show L2.tNotV _ _ _ _); refine' WK.r_notV ?_)
  | ((with_reducible show L2.tIf _ _ _ _ _ _); refine' WK.r_if ?_)
  | ((with_reducible show L2.tChain _ _ _ _ _ _ _ _); refine' WK.r_chain ?_)
  | ((with_reducible show L2.gSub _ _ _ _ _ _ _); refine' WK.r_gsub ?_)
  | ((with_reducible show L2.gCons _ _ (_ :: _) _ _ _); refine' WK.r_gcons ?_)
  | ((with_reducible show L2.gNil [] _ _ _); refine' WK.r_gnil ?_)
  | ((with_reducible show L2.tPar _ _ _ _ _ _); refine' WK.r_par ?_)
  | ((with_reducible show WK.PrQ _ [_, _] _); refine' WK.r_par2 ?_)
  | ((with_reducible show WK.tFn _ _ _ _ _); refine' WK.r_fn ?_)
  | ((with_reducible show L2.tTup _ _ _ _); refine' WK.r_tup ?_)
  | ((with_reducible show L2.tLst _ _ _ _); refine' WK.r_lst ?_)
  | ((with_reducible show L2.tSl _ _ _ _ _ _ _); refine' WK.r_sl ?_)
  | ((with_reducible show L2.tNoPart _ _ _); refine' WK.r_nopart ?_)
  | ((with_reducible show L2.tPart _ _ _ _); refine' WK.r_part ?_)
  | ((with_reducible show WK.InQ _ (L2.V.int _) _); refine' WK.r_in ?_)
  | ((with_reducible show L2.tUn _ _ _ _ _); refine' WK.r_un ?_)
  | ((with_reducible show L2.rU _ (L2.V.int _) _ _); refine' WK.r_rU ?_)
  | ((with_reducible show L2.tFor _ _ _ _ _ _); refine' WK.r_for ?_)
  | ((with_reducible show L2.tLc _ _ _ _ _ _ _ _); refine' WK.r_lc ?_)
  | ((with_reducible show L2.tDc _ _ _ _ _ _ _ _ _); refine' WK.r_dc ?_)
  | ((with_reducible show WK.iVal _ _ _ _ _ _ _ _); refine' WK.r_val ?_)
  | ((with_reducible show L2.iRng1 _ _ _ _); refine' WK.r_rng1 ?_)
  | ((with_reducible show L2.iStr _ _ _ _); refine' WK.r_str ?_)
  | ((with_reducible show WK.StrQ _ (L2.V.str _) _); refine' WK.strQ ?_)
  | ((with_reducible show L2.iItems _ _ _ _); refine' WK.r_items ?_)
  | ((with_reducible show L2.iKeys _ _ _ _); refine' WK.r_keys ?_)
  | ((with_reducible show L2.iVals _ _ _ _); refine' WK.r_values ?_)
  | ((with_reducible show WK.iEnumV _ _ _ _ _); refine' WK.r_enumV ?_)
  | ((with_reducible show L2.tFld _ _ _ _ _ _); refine' WK.r_fld ?_)
  | ((with_reducible show L2.sFld _ _ _ _ _ _ _); refine' WK.r_sfld ?_)
  | ((with_reducible show L2.tYes _ _ _); refine' WK.r_yes ?_)
  | ((with_reducible show WK.AFdQ _ _ _ _ _ _ (L2.V.ref _) _); (refine' WK.afdQ ?k1 ?k2 ?k3 ?k4 ?_); (case k1 => kts_caught); (case k2 => with_reducible assumption); (case k3 => with_reducible assumption); (case k4 => exact rfl))
  | ((with_reducible show L2.sFldAug _ _ _ _ _ _ _ _); refine' WK.r_afld ?_)
  | ((with_reducible show L2.rAdd (L2.V.int _) (L2.V.int _) _ _); refine' WK.r_rAdd ?_)
  | ((with_reducible show L2.rSub (L2.V.int _) (L2.V.int _) _ _); refine' WK.r_rSub ?_)
  | ((with_reducible show WK.gAtt _ _ _ _ _ _ _); refine' WK.r_gatt ?_)
  | ((with_reducible show L2.tPar3 _ _ _ _ _ _ _); refine' WK.r_par3 ?_)
  | ((with_reducible show WK.Pr3Q _ [_, _, _] _); refine' WK.r_par33 ?_)
  | ((with_reducible show ite _ _ _); first
    | (with_reducible refine' WK.ifTT ?_)
    | (with_reducible refine' WK.ifFF ?_)
    | (with_reducible refine' WK.ifNT ?_)
    | (with_reducible refine' WK.ifNF ?_)
    | ((with_reducible refine' WK.ifdT ?k1 ?_); (case k1 => first | with_reducible assumption | omega | (simp only [List.length_map, List.length_append, List.length_cons, List.length_nil, List.length_set]; omega)))
    | ((with_reducible refine' WK.ifdF ?k1 ?_); (case k1 => first | with_reducible assumption | omega | (simp only [List.length_map, List.length_append, List.length_cons, List.length_nil, List.length_set]; omega)))
    | ((with_reducible refine' WK.ifndT ?k1 ?_); (case k1 => first | with_reducible assumption | omega | (simp only [List.length_map, List.length_append, List.length_cons, List.length_nil, List.length_set]; omega)))
    | ((with_reducible refine' WK.ifndF ?k1 ?_); (case k1 => first | with_reducible assumption | omega | (simp only [List.length_map, List.length_append, List.length_cons, List.length_nil, List.length_set]; omega))))
  | ((with_reducible show L2.tAug _ _ _ _ _ _); (refine' WK.r_aug ?hh ?_); (case hh => exact rfl))
  | ((with_reducible show L2.tAugS _ _ _ _ _ _ _ _ _); refine' WK.r_augS ?_)
  | tb_rel)

namespace LW
open PySem PySem.Spec PyProof.Rows L2 WK
def topS (i : Nat) : Stmt := PySem.Challenge.pw_partkin_k13_steps_done_and_done_again.main.body.getD i (.Pass ⟨0, 0, 0, 0⟩)
abbrev s__law_mix : Stmt := topS 40
abbrev s__law_next : Stmt := topS 41
theorem sc__law_mix : FnScope ["_law_script", "_law_seed", "_law_mixed", "_law_cell"] ["_law_script", "_law_seed"] (defScope s__law_mix) := ⟨rfl, rfl, rfl, by decide +kernel, rfl, by decide +kernel, by decide +kernel⟩
theorem sc__law_next : FnScope ["_law_h", "_law_many", "_law_cell"] ["_law_h", "_law_many"] (defScope s__law_next) := ⟨rfl, rfl, rfl, by decide +kernel, rfl, by decide +kernel, by decide +kernel⟩
/-- the state that is drawn from -/
abbrev hL (p q : Addr) (m : Int) (cs : List Int) (k : Int) : Led := [(p, .lst [.int m, .ref q, .int k]), (q, .lst (cs.map V.int))]
section
variable {P : Program} {w : World} {K : PySem.W.Frag} {mg : Str → Option Value} {base : Heap}
def spMix (K : PySem.W.Frag) : Sp := fun vs H Q _ => ∃ (B : Hp) (a : Addr) (ns : List Int) (seed : Int), vs = [.ref a, .int seed] ∧ Ex B H ∧ SqL K B a (ns.map V.int) ∧ ns.length ≤ 63 ∧ 0 ≤ seed ∧ seed < 2147483647 ∧
  ∀ (m : Int) (p q : Addr) (B' H' : Hp), 0 ≤ m → m < 2147483647 → Ok ⟨B, H, []⟩ B' (hL p q m ns 0) H' → Q (.ref p) H'
theorem ok__law_mix {f : Addr} {fd : FuncData} (F : Fun K "_law_mix" "_law_mix" s__law_mix f fd) (n_list : mg "list" = none) : FnOk P w K mg base CX0 1 f fd ["_law_script", "_law_seed"] (spMix K) := by
  refine F.ok sc__law_mix (fun vs H Q E h => ?_) (fun cdv A outer s H vs Q E hr h => ?_)
  · obtain ⟨B, a, ns, seed, rfl, _⟩ := h
    rfl
  · obtain ⟨B, a, ns, seed, rfl, ex, hs, hl, h0, h1, k⟩ := h
    have S := Ok.start0 ex
    refine with_al (P := P) (w := w) (K := K) hr (fun al => ?_)
    refine ⟨_, (pss_cons (ps_asg (pv 1) (pg_name (i := 2) sc__law_mix.nd rfl (by first | exact Or.inl rfl | exact Or.inr rfl))) (pss_cons (ps_for PassesOwn.never rfl (pi_val al (pv 0)) (pg_name (i := 3) sc__law_mix.nd rfl (by first | exact Or.inl rfl | exact Or.inr rfl)) (pss_one (ps_asg (pe_op (opU al) (pe_op (opU al) (pe_op (opU al) (pe_op (opU al) (pv 2) pe_int) (pe_op (opU al) (pv 3) pe_int)) pe_int) pe_int) (pg_name (i := 2) sc__law_mix.nd rfl (by first | exact Or.inl rfl | exact Or.inr rfl))))) (pss_one (ps_ret (pe_lst (pa_cons (pv 2) (pa_cons (pe_callTy (callU al) (by rfl) n_list b_list (pa_cons (pv 0) pa_nil)) (pa_cons pe_int pa_nil)))))))), ?_⟩
    repeat tb_start
    refine forL (S.sqB hs) (fun i σ H' => ∃ (m : Int) (c : Option V), σ = [some (.ref a), some (.int seed), some (.int m), c] ∧ 0 ≤ m ∧ m < 2147483647 ∧ Ok ⟨B, H, []⟩ B [] H') ?_ ?_ ?_ ?_
    · rintro i σ H1 _ ⟨m, c, rfl, _, _, S1⟩
      exact S1.sqB hs
    · exact ⟨seed, none, rfl, h0, h1, S⟩
    · rintro i x σ H1 hx ⟨m, c, rfl, hm0, hm1, S1⟩
      obtain ⟨z, rfl⟩ : ∃ z, x = V.int z := by
        rw [List.getElem?_map] at hx
        cases e : ns[i]? with
        | none => rw [e] at hx; cases hx
        | some z => rw [e] at hx; exact ⟨z, (Option.some.inj hx).symm⟩
      repeat tb_start
      exact ⟨_, _, rfl, Int.emod_nonneg _ (by decide), Int.emod_lt_of_pos _ (by decide), S1⟩
    · rintro σ H1 ⟨m, c, rfl, hm0, hm1, S1⟩
      repeat tb_start
      refine v_listOf S1 (.inl (S1.sqB hs)) fun q H2 S2 => ?_
      repeat tb_start
      refine new_lst S2 (by simp [sizeLine_eq]) fun p H3 S3 => ?_
      exact k m p q _ _ hm0 hm1 S3
/-- the state behind a draw -/
structure HS (cs : List Int) (kk : Int) : Prop where
  len : cs.length ≤ 63
  pl : 0 ≤ kk
theorem mod_ix (n : Nat) (k : Int) : ∃ j : Nat, j < max 1 n ∧ (k % if (n : Int) > 1 then (n : Int) else 1) = (j : Int) := by
  have h : ∃ m : Nat, m = max 1 n ∧ (if (n : Int) > 1 then (n : Int) else 1) = (m : Int) := by
    refine ⟨max 1 n, rfl, ?_⟩
    split <;> omega
  obtain ⟨m, hm, e⟩ := h
  rw [e]
  have h0 : 0 ≤ k % (m : Int) := Int.emod_nonneg _ (by omega)
  have h1 : k % (m : Int) < m := Int.emod_lt_of_pos _ (by omega)
  exact ⟨(k % (m : Int)).toNat, by omega, by omega⟩
theorem item_of (cs : List Int) (j : Nat) (h : j < cs.length) : atI (List.map V.int cs) (j : Int) = some (.int (cs.getD j 0)) := by
  refine atI_nat ?_
  rw [List.getElem?_map, List.getD_eq_getElem?_getD, List.getElem?_eq_getElem h]
  rfl
def spNext : Sp := fun vs H Q _ => ∃ (B : Hp) (p q : Addr) (m : Int) (cs : List Int) (kk many : Int), vs = [.ref p, .int many] ∧ Ok ⟨B, H, [p, q]⟩ B (hL p q m cs kk) H ∧ HS cs kk ∧ 0 < many ∧ many < 1073741824 ∧
  ∀ (r m' : Int) (cs' : List Int) (kk' : Int) (H' : Hp), 0 ≤ r → r < many → HS cs' kk' → Ok ⟨B, H, [p, q]⟩ B (hL p q m' cs' kk') H' → Q (.int r) H'
theorem ok__law_next {f : Addr} {fd : FuncData} (F : Fun K "_law_next" "_law_next" s__law_next f fd) (n_max : mg "max" = none) (n_len : mg "len" = none) : FnOk P w K mg base CX0 1 f fd ["_law_h", "_law_many"] spNext := by
  refine F.ok sc__law_next (fun vs H Q E h => ?_) (fun cdv A outer s H vs Q E hr h => ?_)
  · obtain ⟨B, p, q, m, cs, kk, many, rfl, _⟩ := h
    rfl
  · obtain ⟨B, p, q, m, cs, kk, many, rfl, S, hS, h0, h1, k⟩ := h
    refine with_al (P := P) (w := w) (K := K) hr (fun al => ?_)
    refine ⟨_, (pss_cons (ps_asg (pe_ix (ixU al) (pe_op (opU al) (pe_ix (ixU al) (pv 0) pe_int (fun _ _ => rfl)) (pe_lst (pa_cons pe_int pa_nil))) (pe_op (opU al) (pe_ix (ixU al) (pv 0) pe_int (fun _ _ => rfl)) (pe_callB (callU al) (by rfl) n_max b_max (pa_cons pe_int (pa_cons (pe_callB (callU al) (by rfl) n_len b_len (pa_cons (pe_ix (ixU al) (pv 0) pe_int (fun _ _ => rfl)) pa_nil)) pa_nil)))) (fun _ _ => rfl)) (pg_name (i := 2) sc__law_next.nd rfl (by first | exact Or.inl rfl | exact Or.inr rfl))) (pss_cons (ps_if (pt_cmpR (opU al) (pv 2) (pe_op (opU al) pe_int pe_int) (nomark _)) (pss_cons (ps_asg (pe_op (opU al) (pv 2) (pv 1)) (pg_sub (pe_ix (ixU al) (pv 0) pe_int (fun _ _ => rfl)) (pe_op (opU al) (pe_ix (ixU al) (pv 0) pe_int (fun _ _ => rfl)) (pe_callB (callU al) (by rfl) n_len b_len (pa_cons (pe_ix (ixU al) (pv 0) pe_int (fun _ _ => rfl)) pa_nil))) (setU al))) (pss_one (ps_ret (pe_op (opU al) (pv 2) (pv 1))))) pss_nil) (pss_cons (ps_asg (pe_op (opU al) (pe_op (opU al) (pe_op (opU al) (pe_op (opU al) (pe_ix (ixU al) (pv 0) pe_int (fun _ _ => rfl)) pe_int) (pe_op (opU al) (pv 2) pe_int)) pe_int) pe_int) (pg_sub (pv 0) pe_int (setU al))) (pss_cons (ps_asg (pe_op (opU al) (pe_ix (ixU al) (pv 0) pe_int (fun _ _ => rfl)) pe_int) (pg_sub (pv 0) pe_int (setU al))) (pss_one (ps_ret (pe_op (opU al) (pe_op (opU al) (pe_ix (ixU al) (pv 0) pe_int (fun _ _ => rfl)) pe_int) (pv 1)))))))), ?_⟩
    repeat tb_start
    refine new_lst S (by decide) fun z H1 S1 => ?_
    repeat tb_start
    refine v_cat S1 (by kts_caught) (by kts_caught) ?_ fun z2 H2 S2 => ?_
    · have := hS.len
      rw [List.length_map, sizeLine_eq]
      show cs.length + 1 ≤ _
      omega
    repeat tb_start
    obtain ⟨c, hc, hc0⟩ : ∃ c : Int, atI (List.map V.int cs ++ [V.int 0]) (kk % if ((List.map V.int cs).length : Int) > 1 then ((List.map V.int cs).length : Int) else 1) = some (.int c) ∧ (cs = [] → c = 0) := by
      obtain ⟨j, hj, e⟩ := mod_ix cs.length kk
      refine ⟨(cs ++ [0]).getD j 0, ?_, fun z => ?_⟩
      · rw [List.length_map, e]
        have := item_of (cs ++ [0]) j (by simp; omega)
        rw [List.map_append] at this
        exact this
      · subst z
        have : j = 0 := by have := hj; simp at this; omega
        subst this
        rfl
    refine v_ixL (by kts_caught) hc ?_
    have S3 : Ok ⟨B, H, [p, q]⟩ B (hL p q m cs kk) H2 := S2.drop.drop
    repeat tb_start
    refine ifd (fun hbig => ?_) (fun hbig => ?_)
    · have hne : 0 < cs.length := by
        cases cs with
        | nil => rw [hc0 rfl] at hbig; exact absurd hbig (by decide)
        | cons _ _ => simp
      repeat tb_start
      obtain ⟨j, hj, ej⟩ : ∃ j : Nat, j < cs.length ∧ kk % ((List.map V.int cs).length : Int) = (j : Int) := by
        have h0 : 0 ≤ kk % (cs.length : Int) := Int.emod_nonneg _ (by omega)
        have h1 : kk % (cs.length : Int) < cs.length := Int.emod_lt_of_pos _ (by omega)
        exact ⟨(kk % (cs.length : Int)).toNat, by omega, by rw [List.length_map]; omega⟩
      refine v_setLN 1 S3 rfl (ixN_of ej (by rw [List.length_map]; exact hj)) fun H4 S4 => ?_
      repeat tb_start
      rw [← List.map_set] at S4
      exact k _ m (cs.set j (c / many)) kk _ (Int.emod_nonneg _ (by omega)) (Int.emod_lt_of_pos _ h0) ⟨by rw [List.length_set]; exact hS.len, hS.pl⟩ S4
    · repeat tb_start
      refine v_setLN 0 S3 rfl rfl fun H4 S4 => ?_
      repeat tb_start
      refine v_setLN 0 S4 rfl rfl fun H5 S5 => ?_
      repeat tb_start
      exact k _ _ cs (kk + 1) _ (Int.emod_nonneg _ (by omega)) (Int.emod_lt_of_pos _ h0) ⟨hS.len, by have := hS.pl; omega⟩ S5
end
end LW

namespace LW
open PySem PySem.Spec PyProof.Rows L2 WK PM
abbrev s__law_alike : Stmt := topS 42
theorem sc__law_alike : FnScope ["_law_found", "_law_due", "_law_k"] ["_law_found", "_law_due"] (defScope s__law_alike) := ⟨rfl, rfl, rfl, by decide +kernel, rfl, by decide +kernel, by decide +kernel⟩
def spAl (K : PySem.W.Frag) : Nat → Sp
  | 0 => fun _ _ _ _ => False
  | n + 1 => fun vs H Q _ => ∃ (B : Hp) (x y : V) (d : PyData), vs = [x, y] ∧ Ex B H ∧ Dp K B x d ∧ Dp K B y d ∧ AlOk n d ∧ ∀ B' H', Ok ⟨B, H, []⟩ B' [] H' → Q (.bl true) H'
section
variable {P : Program} {w : World} {K : PySem.W.Frag} {mg : Str → Option Value} {base : Heap}
theorem ok__law_alike0 {f : Addr} {fd : FuncData} : FnOk P w K mg base CX0 0 f fd ["_law_found", "_law_due"] (spAl K 0) := by
  exact ⟨fun vs H Q E h => False.elim h, fun _ _ _ _ _ _ _ _ _ _ _ _ _ h => False.elim h⟩
theorem ok__law_alikeS {f : Addr} {fd : FuncData} {n : Nat} (F : Fun K "_law_alike" "_law_alike" s__law_alike f fd) (G__law_alike : FnG P w K mg base n "_law_alike" ["_law_found", "_law_due"] (spAl K n))
    (n_isinstance : mg "isinstance" = none) (n_tuple : mg "tuple" = none) (n_list : mg "list" = none) (n_str : mg "str" = none) (n_int : mg "int" = none) (n_bool : mg "bool" = none) (n_len : mg "len" = none) (n_range : mg "range" = none) : FnOk P w K mg base CX0 (n + 1) f fd ["_law_found", "_law_due"] (spAl K (n + 1)) := by
  refine F.ok sc__law_alike (fun vs H Q E h => ?_) (fun cdv A outer s H vs Q E hr h => ?_)
  · obtain ⟨B, x, y, d, rfl, _⟩ := h
    rfl
  · obtain ⟨B, x, y, d, rfl, ex, hx, hy, hd, k⟩ := h
    have S := Ok.start0 ex
    refine with_al (P := P) (w := w) (K := K) hr (fun al => ?_)
    refine ⟨_, (pss_cons (ps_if (pt_val (pe_callB (callU al) (by rfl) n_isinstance b_isinstance (pa_cons (pv 1) (pa_cons (pe_tup (pa_cons (pe_bt n_tuple b_tuple (by rfl)) (pa_cons (pe_bt n_list b_list (by rfl)) pa_nil))) pa_nil)))) (pss_cons (ps_if (PW.pt (pw_or (pt_not (pt_val (pe_callB (callU al) (by rfl) n_isinstance b_isinstance (pa_cons (pv 0) (pa_cons (pe_tup (pa_cons (pe_bt n_tuple b_tuple (by rfl)) (pa_cons (pe_bt n_list b_list (by rfl)) pa_nil))) pa_nil))))) (pw_or1 (pt_cmpR (opU al) (pe_callB (callU al) (by rfl) n_isinstance b_isinstance (pa_cons (pv 0) (pa_cons (pe_bt n_list b_list (by rfl)) pa_nil))) (pe_callB (callU al) (by rfl) n_isinstance b_isinstance (pa_cons (pv 1) (pa_cons (pe_bt n_list b_list (by rfl)) pa_nil))) (nomark _))))) (pss_one (ps_ret pe_bl)) pss_nil) (pss_cons (ps_if (pt_cmpR (opU al) (pe_callB (callU al) (by rfl) n_len b_len (pa_cons (pv 0) pa_nil)) (pe_callB (callU al) (by rfl) n_len b_len (pa_cons (pv 1) pa_nil)) (nomark _)) (pss_one (ps_ret pe_bl)) pss_nil) (pss_one (ps_ret (pe_cmpR (opU al) (pe_lc (own := [("_law_k", 2)]) al.calm sc__law_alike.nd (pi_range1 (by rfl) n_range (pa_cons (pe_callB (callU al) (by rfl) n_len b_len (pa_cons (pv 1) pa_nil)) pa_nil)) (blkOk_by (own := [("_law_k", 2)]) (N := ["_law_found", "_law_due", "_law_k"]) (sc := (defScope s__law_alike)) (by decide +kernel)) (fun _ _ _ _ _ => (pg_name (i := 2) sc__law_alike.nd rfl (by first | exact Or.inl rfl | exact Or.inr rfl))) (fun _ _ _ _ _ => pts_one (pt_not (pt_val (pe_fn G__law_alike (hr.mono (by first | decide | omega)) rfl (pa_cons (pe_ix (ixU al) (pv 0) (pv 2) (fun _ _ => rfl)) (pa_cons (pe_ix (ixU al) (pv 1) (pv 2) (fun _ _ => rfl)) pa_nil)))))) (fun _ _ _ _ _ => (pv 2))) (pe_lst pa_nil) (nomark _)))))) pss_nil) (pss_cons (ps_if (PW.pt (pw_or (pt_cmpR op_isN (pv 1) pe_non (nomark _)) (pw_or1 (pt_val (pe_callB (callU al) (by rfl) n_isinstance b_isinstance (pa_cons (pv 1) (pa_cons (pe_bt n_str b_str (by rfl)) pa_nil))))))) (pss_one (ps_ret (pe_and (pe_cmpR (opU al) (pv 0) (pv 1) (nomark _)) (pe_one (pe_cmpR (opU al) (pe_callB (callU al) (by rfl) n_isinstance b_isinstance (pa_cons (pv 0) (pa_cons (pe_bt n_str b_str (by rfl)) pa_nil))) (pe_callB (callU al) (by rfl) n_isinstance b_isinstance (pa_cons (pv 1) (pa_cons (pe_bt n_str b_str (by rfl)) pa_nil))) (nomark _)))))) pss_nil) (pss_one (ps_ret (pe_and (pe_callB (callU al) (by rfl) n_isinstance b_isinstance (pa_cons (pv 0) (pa_cons (pe_bt n_int b_int (by rfl)) pa_nil))) (pe_and (pe_cmpR (opU al) (pe_callB (callU al) (by rfl) n_isinstance b_isinstance (pa_cons (pv 0) (pa_cons (pe_bt n_bool b_bool (by rfl)) pa_nil))) (pe_callB (callU al) (by rfl) n_isinstance b_isinstance (pa_cons (pv 1) (pa_cons (pe_bt n_bool b_bool (by rfl)) pa_nil))) (nomark _)) (pe_one (pe_cmpR (opU al) (pv 0) (pv 1) (nomark _))))))))), ?_⟩
    repeat tb_start
    refine new_tup S (by show 2 ≤ sizeLine; decide) fun t1 B1 H1 e1 ht1 S1 => ?_
    repeat tb_start
    refine v_isiTL S1 (by nest_fact) ht1 ?_
    repeat tb_start
    by_cases hsq : ∃ ds, d = .list ds ∨ d = .tuple ds
    · obtain ⟨ds, hds⟩ := hsq
      have h1 := isSeqT hds
      refine ifT h1 ?_
      have hxl : Dpl K B x ds := hds.elim (fun e => .inl (e ▸ hx)) fun e => .inr (e ▸ hx)
      have hyl : Dpl K B y ds := hds.elim (fun e => .inl (e ▸ hy)) fun e => .inr (e ▸ hy)
      obtain ⟨n', rfl, hlen, hall⟩ : ∃ n', n = n' + 1 ∧ ds.length ≤ 100000 ∧ ∀ d ∈ ds, AlOk n' d := by
        rcases hds with rfl | rfl
        · cases n with
          | zero => cases hd
          | succ n => exact ⟨n, rfl, hd.1, hd.2⟩
        · cases n with
          | zero => cases hd
          | succ n => exact ⟨n, rfl, hd.1, hd.2⟩
      repeat tb_start
      refine new_tup S1 (by show 2 ≤ sizeLine; decide) fun t2 B2 H2 e2 ht2 S2 => ?_
      repeat tb_start
      refine v_isiTL S2 (by nest_fact) ht2 ?_
      rw [h1]
      repeat tb_start
      refine v_isiD S2 (d := d) (by nest_fact) (by decide) ?_
      repeat tb_start
      refine v_isiD S2 (d := d) (by nest_fact) (by decide) ?_
      repeat tb_start
      refine v_neB ?_
      repeat tb_start
      refine ifndT rfl ?_
      repeat tb_start
      refine rngQ (by omega) (by omega) ?_
      rw [Int.toNat_natCast]
      refine lcPure K src_range S2 (fun _ _ _ _ => True.intro) (fun _ => false) (fun _ => .none) (by rw [List.length_range]; exact hlen) ?_ ?_
      · intro i xv B3 D3 acc3 H3 C Cs hi e3 S3 hxv kC kS
        subst hxv
        have hi' : i < ds.length := List.mem_range.mp hi
        obtain ⟨di, hdi⟩ : ∃ di, ds[i]? = some di := ⟨_, List.getElem?_eq_getElem hi'⟩
        repeat tb_start
        refine ⟨rfl, ?_⟩
        repeat tb_start
        refine v_ixDW S3 (hxl.up (by nest_room)) (j := i) (by omega) hdi fun u hu => ?_
        repeat tb_start
        refine v_ixDW S3 (hyl.up (by nest_room)) (j := i) (by omega) hdi fun u2 hu2 => ?_
        refine ⟨B3, u, u2, di, rfl, S3.ex, hu, hu2, hall di (List.mem_of_getElem? hdi), fun B4 H4 T4 => ?_⟩
        repeat tb_start
        exact kS _ _ rfl T4.ex0 (S3.callP T4)
      · intro D3 acc3 B3 H3 e3 S3 hacc3
        have hf : (List.range ds.length).filter (fun _ => false) = [] := List.filter_eq_nil_iff.mpr fun _ _ => by decide
        rw [hf] at hacc3
        obtain rfl := hacc3.nil_inv
        repeat tb_start
        refine new_lst S3 (by decide) fun l4 H4 S4 => ?_
        refine v_eqLen (S4.sqMem (.tail _ (.head _))) (S4.sqMem (.head _)) (.inr ⟨rfl, rfl⟩) ?_
        exact k _ _ S4.drop.drop
    · refine ifF (isSeqF hx hsq) ?_
      repeat tb_start
      cases hx with
      | lst h1 h2 => exact absurd ⟨_, .inl rfl⟩ hsq
      | tup h1 h2 => exact absurd ⟨_, .inr rfl⟩ hsq
      | non =>
        obtain rfl := hy.non_inv
        refine ⟨rfl, ?_⟩
        repeat tb_start
        refine ifdT rfl ?_
        repeat tb_start
        refine v_eqNon ?_
        repeat tb_start
        refine v_isiD (T := "str") S1 (d := .none) .non (by decide) ?_
        repeat tb_start
        refine v_isiD (T := "str") S1 (d := .none) .non (by decide) ?_
        repeat tb_start
        refine v_eqB ?_
        rw [decide_eq_true rfl]
        exact k _ _ S1
      | str z =>
        obtain rfl := hy.str_inv
        refine ⟨rfl, ?_⟩
        repeat tb_start
        refine ifdF (fun z => nomatch z) ?_
        repeat tb_start
        refine v_isiD (T := "str") S1 (d := .str z) (.str z) (by decide) ?_
        repeat tb_start
        refine ifT isT_ss ?_
        repeat tb_start
        refine ifdT rfl ?_
        repeat tb_start
        refine v_isiD (T := "str") S1 (d := .str z) (.str z) (by decide) ?_
        repeat tb_start
        refine v_isiD (T := "str") S1 (d := .str z) (.str z) (by decide) ?_
        repeat tb_start
        refine v_eqB ?_
        rw [decide_eq_true rfl]
        exact k _ _ S1
      | int i =>
        obtain rfl := hy.int_inv
        refine ⟨rfl, ?_⟩
        repeat tb_start
        refine ifdF (fun z => nomatch z) ?_
        repeat tb_start
        refine v_isiD (T := "str") S1 (d := .int i) (.int i) (by decide) ?_
        repeat tb_start
        refine ifF isT_is ?_
        repeat tb_start
        refine v_isiD (T := "int") S1 (d := .int i) (.int i) (by decide) ?_
        repeat tb_start
        refine ifT isT_ii ?_
        repeat tb_start
        refine v_isiD (T := "bool") S1 (d := .int i) (.int i) (by decide) ?_
        repeat tb_start
        refine v_isiD (T := "bool") S1 (d := .int i) (.int i) (by decide) ?_
        repeat tb_start
        refine v_eqB ?_
        repeat tb_start
        refine ifdT rfl ?_
        repeat tb_start
        rw [decide_eq_true rfl]
        exact k _ _ S1
      | bl i =>
        obtain rfl := hy.bl_inv
        refine ⟨rfl, ?_⟩
        repeat tb_start
        refine ifdF (fun z => nomatch z) ?_
        repeat tb_start
        refine v_isiD (T := "str") S1 (d := .bool i) (.bl i) (by decide) ?_
        repeat tb_start
        refine ifF isT_bs ?_
        repeat tb_start
        refine v_isiD (T := "int") S1 (d := .bool i) (.bl i) (by decide) ?_
        repeat tb_start
        refine ifT isT_bi ?_
        repeat tb_start
        refine v_isiD (T := "bool") S1 (d := .bool i) (.bl i) (by decide) ?_
        repeat tb_start
        refine v_isiD (T := "bool") S1 (d := .bool i) (.bl i) (by decide) ?_
        repeat tb_start
        refine v_eqB ?_
        repeat tb_start
        refine ifdT rfl ?_
        repeat tb_start
        refine v_eqB ?_
        rw [decide_eq_true rfl]
        exact k _ _ S1
end
end LW

namespace LW
open PySem PySem.Spec PyProof.Rows L2 WK PM
abbrev s_is_name : Stmt := topS 20
theorem sc_is_name : FnScope ["word", "sign"] ["word"] (defScope s_is_name) := ⟨rfl, rfl, rfl, by decide +kernel, rfl, by decide +kernel, by decide +kernel⟩
section
variable {P : Program} {w : World} {K : PySem.W.Frag} {mg : Str → Option Value} {base : Heap}
def spIsName : Sp := fun vs H Q _ => ∃ (B : Hp) (z : Str), vs = [.str z] ∧ Ex B H ∧ z.length ≤ 1000 ∧ ∀ B' H', Ok ⟨B, H, []⟩ B' [] H' → Q (.bl (isNameM z)) H'
theorem ok_is_name {f : Addr} {fd : FuncData} (F : Fun K "is_name" "is_name" s_is_name f fd) (n_len : mg "len" = none) (n_all : mg "all" = none) (c_MOST_SIGNS : GlI mg "MOST_SIGNS" 8) (c_LETTERS : GlS mg "LETTERS" letters) : FnOk P w K mg base CX0 1 f fd ["word"] spIsName := by
  refine F.ok sc_is_name (fun vs H Q E h => ?_) (fun cdv A outer s H vs Q E hr h => ?_)
  · obtain ⟨B, z, rfl, _⟩ := h
    rfl
  · obtain ⟨B, z, rfl, ex, hl, k⟩ := h
    have S := Ok.start0 ex
    refine with_al (P := P) (w := w) (K := K) hr (fun al => ?_)
    refine ⟨_, (pss_one (ps_ret (pe_and (pe_chain (opU al) (opU al) pe_int (pe_callB (callU al) (by rfl) n_len b_len (pa_cons (pv 0) pa_nil)) (pe_gi c_MOST_SIGNS rfl)) (pe_one (pe_callB (callU al) (by rfl) n_all b_all (pa_cons (pe_lc (own := [("sign", 1)]) al.calm sc_is_name.nd (pi_str (pv 0)) (blkOk_by (own := [("sign", 1)]) (N := ["word", "sign"]) (sc := (defScope s_is_name)) (by decide +kernel)) (fun _ _ _ _ _ => (pg_name (i := 1) sc_is_name.nd rfl (by first | exact Or.inl rfl | exact Or.inr rfl))) (fun _ _ _ _ _ => pts_nil) (fun _ _ _ _ _ => (pe_cmpR (opU al) (pv 1) (pe_gs c_LETTERS rfl) rfl))) pa_nil)))))), ?_⟩
    repeat tb_start
    refine ifd (fun c1 => ?_) (fun c1 => ?_)
    · repeat tb_start
      refine ifd (fun c2 => ?_) (fun c2 => ?_)
      · repeat tb_start
        have hz : z.cps.toList.length ≤ 1000 := hl
        refine lcD src_str S (fun i acc B' L' => L' = [] ∧ acc = (z.cps.toList.take i).map (fun c => V.bl (decide (c ∈ letters.cps.toList))) ∧ i ≤ 1000) ⟨rfl, rfl, by omega⟩ (fun _ _ _ _ _ _ _ => True.intro) ?_ ?_
        · rintro i c x acc B0 B1 L D H1 hc ⟨rfl, rfl, hi⟩ e S1 rfl
          repeat tb_start
          refine ⟨rfl, ?_⟩
          repeat tb_start
          have hi' : i < z.cps.toList.length := (List.getElem?_eq_some_iff.mp hc).1
          refine Acc.mk S1 (by rw [sizeLine_eq, List.length_map, List.length_take]; omega) ⟨rfl, ?_, by omega⟩
          rw [List.take_add_one, hc, List.map_append]
          rfl
        · rintro acc B1 L D H1 ⟨rfl, rfl, hi⟩ S1
          repeat tb_start
          refine v_all (bs := z.cps.toList.map fun c => decide (c ∈ letters.cps.toList)) (by rw [List.map_map]; rw [List.take_length] at S1; exact S1.sqMem (.head _)) ?_
          have e : isNameM z = (z.cps.toList.map fun c => decide (c ∈ letters.cps.toList)).all id := by
            unfold isNameM
            rw [decide_eq_true c1, decide_eq_true c2, Bool.true_and, Bool.true_and]
          repeat tb_start
          rw [← e]
          exact k _ _ S1.drop
      · repeat tb_start
        have e : isNameM z = false := by
          unfold isNameM
          rw [decide_eq_false c2, Bool.false_and, Bool.and_false]
        have q := k _ _ S
        rw [e] at q
        exact q
    · repeat tb_start
      have e : isNameM z = false := by
        unfold isNameM
        rw [decide_eq_false c1, Bool.false_and]
      have q := k _ _ S
      rw [e] at q
      exact q
end
end LW

namespace LW
open PySem PySem.Spec PyProof.Rows L2 WK PM
abbrev s_Parts_is_row : Stmt := inClass (topS 21) 1
theorem sc_Parts_is_row : FnScope ["self", "row", "name", "needs", "steps", "lot", "lead", "others", "part", "many", "machine", "minutes"] ["self", "row"] (defScope s_Parts_is_row) := ⟨rfl, rfl, rfl, by decide +kernel, rfl, by decide +kernel, by decide +kernel⟩
def spIsRow (K : PySem.W.Frag) (CP : Addr) : Sp := fun vs H Q _ => ∃ (B : Hp) (p dx a l : Addr) (v : V) (kvs : List (Key × V)) (names : List Str) (r : PRow), vs = [.ref p, v] ∧ Ex B H ∧ H p = some (.ins CP dx (fldsP a l)) ∧ Rd H a (.dK kvs) ∧ kvs.map (·.1) = names.map Sum.inr ∧
  Dp K B v (encRow r) ∧ GoodRow names r ∧ names.length ≤ 12 ∧ ∀ B' H', Ok ⟨B, H, []⟩ B' [] H' → Q (.bl true) H'
section
variable {P : Program} {w : World} {K : PySem.W.Frag} {mg : Str → Option Value} {base : Heap}
theorem ok_is_row {f CP : Addr} {fd : FuncData} (F : Fun K "is_row" "Parts.is_row" s_Parts_is_row f fd) (G_is_name : FnG P w K mg base 1 "is_name" ["word"] spIsName) (clP : Cls K CP) (nRows : NoAttr K CP "rows")
    (n_len : mg "len" = none) (n_all : mg "all" = none) (n_set : mg "set" = none) (c_MOST_LOT : GlI mg "MOST_LOT" 99) (c_MOST_LEAD : GlI mg "MOST_LEAD" 30) (c_MOST_NEED : GlI mg "MOST_NEED" 9) (c_MOST_STEPS : GlI mg "MOST_STEPS" 5)
    (c_MACHINES : GlI mg "MACHINES" 6) (c_MOST_MINUTES : GlI mg "MOST_MINUTES" 99) : FnOk P w K mg base CX0 2 f fd ["self", "row"] (spIsRow K CP) := by
  refine F.ok sc_Parts_is_row (fun vs H Q E h => ?_) (fun cdv A outer s H vs Q E hr h => ?_)
  · obtain ⟨B, p, dx, a, l, v, kvs, names, r, rfl, _⟩ := h
    rfl
  · obtain ⟨B, p, dx, a, l, v, kvs, names, r, rfl, ex, hp, ha, hk, hv, G, hn, k⟩ := h
    have S := Ok.start0 ex
    refine with_al (P := P) (w := w) (K := K) hr (fun al => ?_)
    refine ⟨_, (pss_cons (ps_asg (pv 1) (pg_tupU (n := 5) K (pgs_cons (pg_name (i := 2) sc_Parts_is_row.nd rfl (by first | exact Or.inl rfl | exact Or.inr rfl)) (pgs_cons (pg_name (i := 3) sc_Parts_is_row.nd rfl (by first | exact Or.inl rfl | exact Or.inr rfl)) (pgs_cons (pg_name (i := 4) sc_Parts_is_row.nd rfl (by first | exact Or.inl rfl | exact Or.inr rfl)) (pgs_cons (pg_name (i := 5) sc_Parts_is_row.nd rfl (by first | exact Or.inl rfl | exact Or.inr rfl)) (pgs_cons (pg_name (i := 6) sc_Parts_is_row.nd rfl (by first | exact Or.inl rfl | exact Or.inr rfl)) pgs_nil))))))) (pss_cons (ps_if (PW.pt (pw_or (pt_not (pt_val (pe_fn G_is_name (hr.mono (by first | decide | omega)) rfl (pa_cons (pv 2) pa_nil)))) (pw_or (pt_cmpR (opU al) (pv 2) (pe_fldU K (pv 0) rfl) rfl) (pw_or (pt_not (pt_chain (opU al) (opU al) pe_int (pv 5) (pe_gi c_MOST_LOT rfl))) (pw_or1 (pt_not (pt_chain (opU al) (opU al) pe_int (pv 6) (pe_gi c_MOST_LEAD rfl)))))))) (pss_one (ps_ret pe_bl)) pss_nil) (pss_cons (ps_setLc (i := 7) (own := [("part", 8), ("many", 9)]) al.calm sc_Parts_is_row.nd rfl rfl (sw_true rfl rfl rfl (by decide +kernel)) (pi_val al (pv 3)) (blkOk_by (own := [("part", 8), ("many", 9)]) (N := ["self", "row", "name", "needs", "steps", "lot", "lead", "others", "part", "many", "machine", "minutes"]) (sc := (defScope s_Parts_is_row)) (by decide +kernel)) (fun _ _ _ _ _ => (pg_tupU (n := 2) K (pgs_cons (pg_name (i := 8) sc_Parts_is_row.nd rfl (by first | exact Or.inl rfl | exact Or.inr rfl)) (pgs_cons (pg_name (i := 9) sc_Parts_is_row.nd rfl (by first | exact Or.inl rfl | exact Or.inr rfl)) pgs_nil)))) (fun _ _ _ _ _ => pts_nil) (fun _ _ _ _ _ => (pv 8))) (pss_cons (ps_if (PW.pt (pw_or (pt_cmpR (opU al) (pe_callB (callU al) (by rfl) n_len b_len (pa_cons (pe_callTy (callU al) (by rfl) n_set b_set (pa_cons (pv 7) pa_nil)) pa_nil)) (pe_callB (callU al) (by rfl) n_len b_len (pa_cons (pv 7) pa_nil)) (nomark _)) (pw_or1 (pt_not (pt_val (pe_callB (callU al) (by rfl) n_all b_all (pa_cons (pe_lc (own := [("part", 8)]) al.calm sc_Parts_is_row.nd (pi_val al (pv 7)) (blkOk_by (own := [("part", 8)]) (N := ["self", "row", "name", "needs", "steps", "lot", "lead", "others", "part", "many", "machine", "minutes"]) (sc := (defScope s_Parts_is_row)) (by decide +kernel)) (fun _ _ _ _ _ => (pg_name (i := 8) sc_Parts_is_row.nd rfl (by first | exact Or.inl rfl | exact Or.inr rfl))) (fun _ _ _ _ _ => pts_nil) (fun _ _ _ _ _ => (pe_cmpR (opU al) (pv 8) (pe_fldU K (pv 0) rfl) rfl))) pa_nil))))))) (pss_one (ps_ret pe_bl)) pss_nil) (pss_cons (ps_if (PW.pt (pw_or (pt_not (pt_val (pe_callB (callU al) (by rfl) n_all b_all (pa_cons (pe_lc (own := [("part", 8), ("many", 9)]) al.calm sc_Parts_is_row.nd (pi_val al (pv 3)) (blkOk_by (own := [("part", 8), ("many", 9)]) (N := ["self", "row", "name", "needs", "steps", "lot", "lead", "others", "part", "many", "machine", "minutes"]) (sc := (defScope s_Parts_is_row)) (by decide +kernel)) (fun _ _ _ _ _ => (pg_tupU (n := 2) K (pgs_cons (pg_name (i := 8) sc_Parts_is_row.nd rfl (by first | exact Or.inl rfl | exact Or.inr rfl)) (pgs_cons (pg_name (i := 9) sc_Parts_is_row.nd rfl (by first | exact Or.inl rfl | exact Or.inr rfl)) pgs_nil)))) (fun _ _ _ _ _ => pts_nil) (fun _ _ _ _ _ => (pe_chain (opU al) (opU al) pe_int (pv 9) (pe_gi c_MOST_NEED rfl)))) pa_nil)))) (pw_or1 (pt_cmpR (opU al) (pe_callB (callU al) (by rfl) n_len b_len (pa_cons (pv 4) pa_nil)) (pe_gi c_MOST_STEPS rfl) (nomark _))))) (pss_one (ps_ret pe_bl)) pss_nil) (pss_one (ps_ret (pe_callB (callU al) (by rfl) n_all b_all (pa_cons (pe_lc (own := [("machine", 10), ("minutes", 11)]) al.calm sc_Parts_is_row.nd (pi_val al (pv 4)) (blkOk_by (own := [("machine", 10), ("minutes", 11)]) (N := ["self", "row", "name", "needs", "steps", "lot", "lead", "others", "part", "many", "machine", "minutes"]) (sc := (defScope s_Parts_is_row)) (by decide +kernel)) (fun _ _ _ _ _ => (pg_tupU (n := 2) K (pgs_cons (pg_name (i := 10) sc_Parts_is_row.nd rfl (by first | exact Or.inl rfl | exact Or.inr rfl)) (pgs_cons (pg_name (i := 11) sc_Parts_is_row.nd rfl (by first | exact Or.inl rfl | exact Or.inr rfl)) pgs_nil)))) (fun _ _ _ _ _ => pts_nil) (fun _ _ _ _ _ => (pe_and (pe_chain (opU al) (opU al) pe_int (pv 10) (pe_gi c_MACHINES rfl)) (pe_one (pe_chain (opU al) (opU al) pe_int (pv 11) (pe_gi c_MOST_MINUTES rfl)))))) pa_nil))))))))), ?_⟩
    repeat tb_start
    obtain ⟨lo1, lo2⟩ := G.lot
    obtain ⟨le1, le2⟩ := G.lead
    have fs := G.few
    refine r_gtupRow S hv fun v2 v3 h2 h3 => ?_
    repeat tb_start
    have nl : r.name.length ≤ 1000 := by
      have := G.nm
      unfold isNameM at this
      simp only [Bool.and_eq_true, decide_eq_true_eq] at this
      omega
    refine ⟨B, r.name, rfl, S.ex, nl, fun B1 H1 T1 => ?_⟩
    have S1 := S.callP T1
    have e1 := T1.ex0
    repeat tb_start
    rw [G.nm]
    repeat tb_start
    have no : (valV kvs (.inr r.name)).isSome = false := valV_isSome_false (by
      rw [hk]
      intro z
      obtain ⟨x, hx, e⟩ := List.mem_map.mp z
      exact G.new (Sum.inr.inj e ▸ hx))
    rw [no]
    repeat tb_start
    have nlen : r.needs.length ≤ 12 := by
      have h1 := nodup_sub_length G.nd (l' := names) (by
        intro x hx
        obtain ⟨y, hy, rfl⟩ := List.mem_map.mp hx
        exact G.known y hy)
      rw [List.length_map] at h1
      omega
    refine lcPureT S1 (h2.up e1) (fun _ => true) (fun x => .str x.1) (by omega) ?_ ?_
    · intro x v B2 D acc H2 C Cs hx e2 S2 hv kC kS
      repeat tb_start
      refine r_gtupSI S2 hv ?_
      repeat tb_start
      refine ⟨rfl, ?_⟩
      repeat tb_start
      exact kC _ _ _ rfl (Ex.refl _) S2 (.str _)
    · intro D acc B2 H2 e2 S2 hacc
      rw [filter_tt] at hacc
      have hD' : DpAll K B2 acc ((r.needs.map (·.1)).map PyData.str) := by rw [List.map_map]; exact hacc
      obtain ⟨B3, e3, S3, hD⟩ := S2.toData hD'
      repeat tb_start
      refine v_setOfD S3 hD (by rw [List.length_map]; omega) fun p4 H4 S4 => ?_
      rw [unlike_strs G.nd] at S4
      repeat tb_start
      refine v_lenSet (S4.mem (.head _)) (by rw [List.length_map]; omega) ?_
      have S5 := S4.drop
      repeat tb_start
      refine lcPureL S5 hD (fun _ => true) (fun _ => .bool true) (by rw [List.length_map]; omega) ?_ ?_
      · intro x v B6 D6 acc6 H6 C Cs hx e6 S6 hv kC kS
        obtain rfl := hv.str_inv
        repeat tb_start
        refine ⟨rfl, ?_⟩
        repeat tb_start
        have yes : (valV kvs (.inr x)).isSome = true := valV_isSome_true (by
          rw [hk]
          obtain ⟨y, hy, rfl⟩ := List.mem_map.mp hx
          exact List.mem_map.mpr ⟨_, G.known y hy, rfl⟩)
        rw [yes]
        exact kC _ _ _ rfl (Ex.refl _) S6 (.bl _)
      · intro D6 acc6 B6 H6 e6 S6 hacc6
        rw [filter_tt] at hacc6
        obtain ⟨B7, e7, S7, hD7⟩ := S6.toData (ds := ((r.needs.map (·.1)).map fun _ => true).map PyData.bool) (by rw [List.map_map]; exact hacc6)
        repeat tb_start
        refine v_allD S7 hD7 ?_
        have all1 : (((r.needs.map (·.1)).map fun _ => true).all id) = true := by simp
        rw [all1]
        repeat tb_start
        refine lcPureT S7 (h2.up (e1.trans (e2.trans (e3.trans (e6.trans e7))))) (fun _ => true) (fun _ => .bool true) (by omega) ?_ ?_
        · intro x v B8 D8 acc8 H8 C Cs hx e8 S8 hv kC kS
          obtain ⟨m1, m2⟩ := G.many x hx
          repeat tb_start
          refine r_gtupSI S8 hv ?_
          repeat tb_start
          refine ⟨rfl, ?_⟩
          repeat tb_start
          rw [decide_eq_true m2]
          exact kC _ _ _ rfl (Ex.refl _) S8 (.bl _)
        · intro D8 acc8 B8 H8 e8 S8 hacc8
          rw [filter_tt] at hacc8
          obtain ⟨B9, e9, S9, hD9⟩ := S8.toData (ds := (r.needs.map fun _ => true).map PyData.bool) (by rw [List.map_map]; exact hacc8)
          repeat tb_start
          refine v_allD S9 hD9 ?_
          have all2 : ((r.needs.map fun _ => true).all id) = true := by simp
          rw [all2]
          repeat tb_start
          refine lcPureT S9 (h3.up (e1.trans (e2.trans (e3.trans (e6.trans (e7.trans (e8.trans e9))))))) (fun _ => true) (fun _ => .bool true) (by omega) ?_ ?_
          · intro x v Ba Da acca Ha C Cs hx ea Sa hv kC kS
            obtain ⟨⟨m1, m2⟩, m3, m4⟩ := G.steps x hx
            repeat tb_start
            refine r_gtupII Sa hv ?_
            repeat tb_start
            refine ⟨rfl, ?_⟩
            repeat tb_start
            rw [decide_eq_true m4]
            exact kC _ _ _ rfl (Ex.refl _) Sa (.bl _)
          · intro Da acca Ba Ha ea Sa hacca
            rw [filter_tt] at hacca
            obtain ⟨Bb, eb, Sb, hDb⟩ := Sa.toData (ds := (r.steps.map fun _ => true).map PyData.bool) (by rw [List.map_map]; exact hacca)
            repeat tb_start
            refine v_allD Sb hDb ?_
            have all3 : ((r.steps.map fun _ => true).all id) = true := by simp
            rw [all3]
            exact k _ _ Sb
end
end LW

namespace LW
open PySem PySem.Spec PyProof.Rows L2 WK PM
abbrev s_Parts_led_to : Stmt := inClass (topS 21) 2
theorem sc_Parts_led_to : FnScope ["self", "needs", "found", "part", "many", "other", "more"] ["self", "needs"] (defScope s_Parts_led_to) := ⟨rfl, rfl, rfl, by decide +kernel, rfl, by decide +kernel, by decide +kernel⟩
def spLedTo (K : PySem.W.Frag) (CP : Addr) : Sp := fun vs H Q _ => ∃ (B : Hp) (p dx a l : Addr) (v : V) (rkv lkv : List (Key × V)) (names : List Str) (ls : List (Str × List (Str × Int))) (needs : List (Str × Int)), vs = [.ref p, v] ∧ Ex B H ∧
  H p = some (.ins CP dx (fldsP a l)) ∧ H a = some (.dK rkv) ∧ B a = none ∧ rkv.map (·.1) = names.map Sum.inr ∧ names.Nodup ∧ names.length ≤ 12 ∧ Rd H l (.dK lkv) ∧ LedKV B lkv ls ∧ Dp K B v (.tuple (needs.map encNeed)) ∧
  (∀ x ∈ needs, x.1 ∈ names ∧ (1 ≤ x.2 ∧ x.2 ≤ 9) ∧ ∃ m, getA ls x.1 = some m ∧ ∀ y ∈ m, y.1 ∈ names) ∧
  ∀ D B' H', Ex B B' → Ok ⟨B, H, []⟩ B' [(D, .dK (kvI (ledTo names ls needs)))] H' → Q (.ref D) H'
section
variable {P : Program} {w : World} {K : PySem.W.Frag} {mg : Str → Option Value} {base : Heap}
theorem ok_led_to {f CP : Addr} {fd : FuncData} (F : Fun K "led_to" "Parts.led_to" s_Parts_led_to f fd) (clP : Cls K CP) (nRows : NoAttr K CP "rows") (nLed : NoAttr K CP "led") : FnOk P w K mg base CX0 1 f fd ["self", "needs"] (spLedTo K CP) := by
  refine F.ok sc_Parts_led_to (fun vs H Q E h => ?_) (fun cdv A outer s H vs Q E hr h => ?_)
  · obtain ⟨B, p, dx, a, l, v, rkv, lkv, names, ls, needs, rfl, _⟩ := h
    rfl
  · obtain ⟨B, p, dx, a, l, v, rkv, lkv, names, ls, needs, rfl, ex, hp, ha, hb, hk, nd, hn, hl, LK, hv, hx, k⟩ := h
    have S := Ok.start0 ex
    refine with_al (P := P) (w := w) (K := K) hr (fun al => ?_)
    refine ⟨_, (pss_cons (ps_lock (ps_setDc (i := 2) (own := [("part", 3)]) al.calm sc_Parts_led_to.nd rfl rfl (sw_trueD rfl rfl rfl (by decide +kernel)) (pi_keys (pe_fldU K (pv 0) rfl)) (blkOk_by (own := [("part", 3)]) (N := ["self", "needs", "found", "part", "many", "other", "more"]) (sc := (defScope s_Parts_led_to)) (by decide +kernel)) (fun _ _ _ _ _ => (pg_name (i := 3) sc_Parts_led_to.nd rfl (by first | exact Or.inl rfl | exact Or.inr rfl))) (fun _ _ _ _ _ => pts_nil) (fun _ _ _ _ _ => (pv 3)) (fun _ _ _ _ _ => pe_int))) (pss_cons (ps_for PassesOwn.never rfl (pi_val al (pv 1)) (pg_tupU (n := 2) K (pgs_cons (pg_name (i := 3) sc_Parts_led_to.nd rfl (by first | exact Or.inl rfl | exact Or.inr rfl)) (pgs_cons (pg_name (i := 4) sc_Parts_led_to.nd rfl (by first | exact Or.inl rfl | exact Or.inr rfl)) pgs_nil))) (pss_cons (ps_augS (pv 2) (pv 3) (getU al) (pv 4) (ipU al) (setU al)) (pss_one (ps_for PassesOwn.never rfl (pi_items (pe_ix (ixU al) (pe_fldU K (pv 0) rfl) (pv 3) (fun _ _ => rfl))) (pg_tupU (n := 2) K (pgs_cons (pg_name (i := 5) sc_Parts_led_to.nd rfl (by first | exact Or.inl rfl | exact Or.inr rfl)) (pgs_cons (pg_name (i := 6) sc_Parts_led_to.nd rfl (by first | exact Or.inl rfl | exact Or.inr rfl)) pgs_nil))) (pss_one (ps_augS (pv 2) (pv 5) (getU al) (pe_op (opU al) (pv 4) (pv 6)) (ipU al) (setU al))))))) (pss_one (ps_ret (pe_frz (pe_dc (own := [("part", 3), ("many", 4)]) al.calm sc_Parts_led_to.nd (pi_items (pv 2)) (blkOk_by (own := [("part", 3), ("many", 4)]) (N := ["self", "needs", "found", "part", "many", "other", "more"]) (sc := (defScope s_Parts_led_to)) (by decide +kernel)) (fun _ _ _ _ _ => (pg_tupU (n := 2) K (pgs_cons (pg_name (i := 3) sc_Parts_led_to.nd rfl (by first | exact Or.inl rfl | exact Or.inr rfl)) (pgs_cons (pg_name (i := 4) sc_Parts_led_to.nd rfl (by first | exact Or.inl rfl | exact Or.inr rfl)) pgs_nil)))) (fun _ _ _ _ _ => pts_one (pt_cmpR (opU al) (pv 4) pe_int (nomark _))) (fun _ _ _ _ _ => (pv 3)) (fun _ _ _ _ _ => (pv 4)))))))), ?_⟩
    repeat tb_start
    refine r_lockS ha trivial fun od => ?_
    have S1 := S.lock (od := od) ha hb (by simp)
    have hp1 : upd H a (.frz od (.dK rkv)) p = some (.ins CP dx (fldsP a l)) := by
      rw [upd_ne (fun z => by rw [z, ha] at hp; cases hp)]; exact hp
    repeat tb_start
    refine keyQ upd_same ?_
    refine dcPure src_keys S1 (fun B1 D acc e => .inr (.tail _ (.head _))) (fun _ => true) (fun q => (q, .int 0)) ?_ ?_ ?_ ?_
    · rw [List.map_id', hk]
      exact nodup_inr nd
    · rw [hk, List.length_map]; omega
    · intro q x B2 D acc H2 C Cs hq e2 S2 hv kC kS
      rw [hk] at hq
      obtain ⟨z, hz, rfl⟩ := List.mem_map.mp hq
      subst hv
      repeat tb_start
      refine ⟨rfl, ?_⟩
      repeat tb_start
      exact kC _ _ _ rfl rfl (Ex.refl _) S2
    · intro D B2 H2 e2 S2
      rw [filter_tt, hk] at S2
      have eq0 : ((names.map Sum.inr).map fun q : Key => ((q, .int 0) : Key × V)) = kvI (names.map fun s => (s, 0)) := by
        unfold kvI
        rw [List.map_map, List.map_map]; rfl
      rw [eq0] at S2
      have S3 := S2.swap
      obtain ⟨e0, S4⟩ := S.unlock ha hb (by simp) S3
      refine ⟨e0, ?_⟩
      repeat tb_start
      refine forDT S4 (hv.up e2) (fun i σ B1 L1 => ∃ x1 x2 x3 x4, σ = [some (.ref p), some v, some (.ref D), x1, x2, x3, x4] ∧ L1 = [(D, .dK (kvI ((needs.take i).foldl (needStep ls) (names.map fun s => (s, 0)))))]) ?_ ?_ ?_
      · exact ⟨_, _, _, _, rfl, rfl⟩
      · rintro i x xv σ B1 B3 L1 H3 hget ⟨_, _, _, _, rfl, rfl⟩ e3 e4 S5 hxv
        have hmem := List.mem_of_getElem? hget
        obtain ⟨hin, ⟨m1, m2⟩, m, hm, hmk⟩ := hx x hmem
        have keys0 : ((needs.take i).foldl (needStep ls) (names.map fun s => (s, 0))).map (·.1) = names := by
          rw [needs_keys]
          · rw [List.map_map]; exact List.map_id' _
          · intro y hy
            rw [List.map_map]
            exact (List.map_id' names).symm ▸ (hx y (List.mem_of_mem_take hy)).1
          · intro y hy m' em z hz
            obtain ⟨_, _, m'', em'', hm''⟩ := hx y (List.mem_of_mem_take hy)
            rw [em''] at em
            cases em
            rw [List.map_map]
            exact (List.map_id' names).symm ▸ hm'' z hz
        rw [foldl_take_succ hget]
        generalize hf : (needs.take i).foldl (needStep ls) (names.map fun s => (s, 0)) = f at S5 keys0 ⊢
        repeat tb_start
        refine r_gtupSI S5 hxv ?_
        repeat tb_start
        obtain ⟨c, hc⟩ := getA_of_mem (l := f) (s := x.1) (by rw [keys0]; exact hin)
        refine v_getDS (kvs := kvI f) (by kts_caught) (by rw [valV_kvI, hc]; rfl) ?_
        repeat tb_start
        have len1 : f.length ≤ 12 := by
          have := congrArg List.length keys0
          rw [List.length_map] at this
          omega
        refine v_setKN (k := .inr x.1) 0 S5 rfl rfl (by rw [List.length_map, sizeLine_eq]; omega) fun H4 S6 => ?_
        rw [putK_kvI] at S6
        have eadd : putA f x.1 (c + x.2) = addA f x.1 x.2 := by unfold addA; rw [hc]; rfl
        rw [eadd] at S6
        replace S6 : Ok _ B3 [(D, .dK (kvI (addA f x.1 x.2)))] H4 := S6
        have keys1 : (addA f x.1 x.2).map (·.1) = names := by rw [addA_keys (by rw [keys0]; exact hin), keys0]
        obtain ⟨d, od2, hd1, hd2⟩ := LK.get hm
        repeat tb_start
        refine v_ixDS (kvs := lkv) (S6.keptRd hl) hd1 ?_
        repeat tb_start
        have e5 : Ex B B3 := e2.trans (e3.trans e4)
        refine itmQ (S6.ex _ _ (e5 _ _ hd2)) ?_
        refine forDS src_items S6 (fun j σ B1 L1 => ∃ x3 x4, σ = [some (.ref p), some v, some (.ref D), some (.str x.1), some (.int x.2), x3, x4] ∧ L1 = [(D, .dK (kvI (addAll x.2 (addA f x.1 x.2) (m.take j))))]) (fun j σ B1 L1 e6 _ => .inl (e6 _ _ (e5 _ _ hd2))) ?_ ?_ ?_
        · exact ⟨_, _, rfl, rfl⟩
        · rintro j kv yv σ B1 B4 L1 H5 hgetj ⟨_, _, rfl, rfl⟩ e6 e7 S7 ⟨T, rfl, hT⟩
          obtain ⟨y, hy, rfl⟩ := kvI_get hgetj
          have hyk := hmk y (List.mem_of_getElem? hy)
          unfold addAll at S7 ⊢
          rw [foldl_take_succ hy]
          have keys2 : ((m.take j).foldl (fun f p => addA f p.1 (x.2 * p.2)) (addA f x.1 x.2)).map (·.1) = names := by
            have := addAll_keys (m := x.2) (f := addA f x.1 x.2) (more := m.take j) (fun z hz => by rw [keys1]; exact hmk z (List.mem_of_mem_take hz))
            unfold addAll at this
            rw [this, keys1]
          generalize hg : (m.take j).foldl (fun f p => addA f p.1 (x.2 * p.2)) (addA f x.1 x.2) = g at S7 keys2 ⊢
          refine r_gtupB S7 hT rfl ?_
          repeat tb_start
          obtain ⟨c2, hc2⟩ := getA_of_mem (l := g) (s := y.1) (by rw [keys2]; exact hyk)
          refine v_getDS (kvs := kvI g) (by kts_caught) (by rw [valV_kvI, hc2]; rfl) ?_
          repeat tb_start
          have len2 : g.length ≤ 12 := by
            have := congrArg List.length keys2
            rw [List.length_map] at this
            omega
          refine v_setKN (k := .inr y.1) 0 S7 rfl rfl (by rw [List.length_map, sizeLine_eq]; omega) fun H6 S8 => ?_
          rw [putK_kvI] at S8
          have eadd2 : putA g y.1 (c2 + x.2 * y.2) = addA g y.1 (x.2 * y.2) := by
            rw [addA, hc2]; rfl
          rw [eadd2] at S8
          refine NxE.mk' S8 (e6.trans e7) ?_
          exact ⟨_, _, rfl, rfl⟩
        · rintro σ B4 L4 H5 ⟨_, _, rfl, rfl⟩ e6 S7
          have et : m.take (kvI m).length = m := by rw [List.length_map, List.take_length]
          rw [et] at S7
          refine NxE.mk' S7 ((e3.trans e4).trans e6) ?_
          refine ⟨_, _, _, _, rfl, ?_⟩
          unfold needStep
          rw [hm]
          rfl
      · rintro σ B4 L4 H4 ⟨_, _, _, _, rfl, rfl⟩ e3 S5
        rw [List.take_length] at S5
        have keys0 : (ledRaw names ls needs).map (·.1) = names := by
          unfold ledRaw
          rw [needs_keys]
          · rw [List.map_map]; exact List.map_id' _
          · intro y hy
            rw [List.map_map]
            exact (List.map_id' names).symm ▸ (hx y hy).1
          · intro y hy m' em z hz
            obtain ⟨_, _, m'', em'', hm''⟩ := hx y hy
            rw [em''] at em
            cases em
            rw [List.map_map]
            exact (List.map_id' names).symm ▸ hm'' z hz
        replace S5 : Ok _ B4 [(D, .dK (kvI (ledRaw names ls needs)))] H4 := S5
        repeat tb_start
        refine frzE (S5.own _ (.head _)).1 trivial fun od3 => ?_
        obtain ⟨B5, e5, hD, S6⟩ := S5.freezeD (od := od3)
        repeat tb_start
        refine itmQ (S6.ex _ _ hD) ?_
        refine dcPure src_items S6 (fun B1 D acc e => .inl (e _ _ hD)) (vInt fun i => decide (0 < i)) id ?_ ?_ ?_ ?_
        · show ((kvI (ledRaw names ls needs)).map (·.1)).Nodup
          rw [kvI_keys, keys0]
          exact nodup_inr nd
        · have := congrArg List.length keys0
          rw [List.length_map] at this ⊢
          omega
        · rintro kv x B6 D6 acc H6 C Cs hkv e6 S7 ⟨T, rfl, hT⟩ kC kS
          obtain ⟨y, hy, rfl⟩ := List.mem_map.mp hkv
          refine r_gtupB S7 hT rfl ?_
          repeat tb_start
          refine ⟨rfl, ?_⟩
          repeat tb_start
          refine ifd (fun h0 => ?_) (fun h0 => ?_)
          · repeat tb_start
            exact kC _ _ _ (decide_eq_true h0) rfl (Ex.refl _) S7
          · exact kS _ _ (decide_eq_false h0) (Ex.refl _) S7
        · intro D6 B6 H6 e6 S7
          rw [List.map_id] at S7
          rw [kvI_filter] at S7
          exact k D6 B6 H6 (e2.trans (e3.trans (e5.trans e6))) S7
end
end LW

namespace LW
open PySem PySem.Spec PyProof.Rows L2 WK PM
abbrev s_Parts___init__ : Stmt := inClass (topS 21) 0
theorem sc_Parts___init__ : FnScope ["self", "told", "at", "row", "name", "needs", "steps", "lot", "lead"] ["self", "told"] (defScope s_Parts___init__) := ⟨rfl, rfl, rfl, by decide +kernel, rfl, by decide +kernel, by decide +kernel⟩
def spPInit (K : PySem.W.Frag) (CP : Addr) : Sp := fun vs H Q _ => ∃ (B : Hp) (p dx : Addr) (v : V) (rs : List PRow), vs = [.ref p, v] ∧ Ok ⟨B, H, [p]⟩ B [(p, .ins CP dx [])] H ∧ Dpl K B v (rs.map encRow) ∧ GoodBook rs ∧
  ∀ a l rkv lkv B' H', Ex B B' → RowKV K B' rkv rs → LedKV B' lkv (ledOf rs) → Ok ⟨B, H, [p]⟩ B' [(l, .dK lkv), (a, .dK rkv), (p, .ins CP dx (fldsP a l))] H' → Q .non H'
section
variable {P : Program} {w : World} {K : PySem.W.Frag} {mg : Str → Option Value} {base : Heap}
theorem ok_parts_init {f CP : Addr} {fd : FuncData} (F : Fun K "__init__" "Parts.__init__" s_Parts___init__ f fd) (G_is_row : MtG P w K mg base 2 CP "is_row" ["self", "row"] (spIsRow K CP)) (G_led_to : MtG P w K mg base 1 CP "led_to" ["self", "needs"] (spLedTo K CP))
    (clP : Cls K CP) (nRows : NoAttr K CP "rows") (nLed : NoAttr K CP "led") (n_enumerate : mg "enumerate" = none) (n_tuple : mg "tuple" = none) (n_sum : mg "sum" = none) (c_MOST_PARTS : GlI mg "MOST_PARTS" 12) (c_MOST_LED : GlI mg "MOST_LED" 200) : FnOk P w K mg base CX0 3 f fd ["self", "told"] (spPInit K CP) := by
  refine F.ok sc_Parts___init__ (fun vs H Q E h => ?_) (fun cdv A outer s H vs Q E hr h => ?_)
  · obtain ⟨B, p, dx, v, rs, rfl, _⟩ := h
    rfl
  · obtain ⟨B, p, dx, v, rs, rfl, S, hv, G, k⟩ := h
    refine with_al (P := P) (w := w) (K := K) hr (fun al => ?_)
    refine ⟨_, (pss_cons (ps_fldK K (pv 0) pe_dnewK rfl) (pss_cons (ps_fldK K (pv 0) pe_dnewK rfl) (pss_one (ps_for PassesOwn.never rfl (pi_enumV (by rfl) n_enumerate (pa_cons (pv 1) pa_nil)) (pg_tupU (n := 2) K (pgs_cons (pg_name (i := 2) sc_Parts___init__.nd rfl (by first | exact Or.inl rfl | exact Or.inr rfl)) (pgs_cons (pg_name (i := 3) sc_Parts___init__.nd rfl (by first | exact Or.inl rfl | exact Or.inr rfl)) pgs_nil))) (pss_cons (ps_if (PW.pt (pw_or (pt_cmpR (opU al) (pv 2) (pe_gi c_MOST_PARTS rfl) (nomark _)) (pw_or1 (pt_not (pt_val (pe_mth G_is_row (hr.mono (by first | decide | omega)) (pv 0) (pa_cons (pv 3) pa_nil))))))) (pss_one ps_never) pss_nil) (pss_cons (ps_asg (pv 3) (pg_tupU (n := 5) K (pgs_cons (pg_name (i := 4) sc_Parts___init__.nd rfl (by first | exact Or.inl rfl | exact Or.inr rfl)) (pgs_cons (pg_name (i := 5) sc_Parts___init__.nd rfl (by first | exact Or.inl rfl | exact Or.inr rfl)) (pgs_cons (pg_name (i := 6) sc_Parts___init__.nd rfl (by first | exact Or.inl rfl | exact Or.inr rfl)) (pgs_cons (pg_name (i := 7) sc_Parts___init__.nd rfl (by first | exact Or.inl rfl | exact Or.inr rfl)) (pgs_cons (pg_name (i := 8) sc_Parts___init__.nd rfl (by first | exact Or.inl rfl | exact Or.inr rfl)) pgs_nil))))))) (pss_cons (ps_asg (pe_tup (pa_cons (pe_callTy (callU al) (by rfl) n_tuple b_tuple (pa_cons (pv 5) pa_nil)) (pa_cons (pe_callTy (callU al) (by rfl) n_tuple b_tuple (pa_cons (pv 6) pa_nil)) (pa_cons (pv 7) (pa_cons (pv 8) pa_nil))))) (pg_sub (pe_fldU K (pv 0) rfl) (pv 4) (setU al))) (pss_cons (ps_asg (pe_mth G_led_to (hr.mono (by first | decide | omega)) (pv 0) (pa_cons (pv 5) pa_nil)) (pg_sub (pe_fldU K (pv 0) rfl) (pv 4) (setU al))) (pss_one (ps_frz (ps_if (pt_cmpR (opU al) (pe_sumVals al.calm (by rfl) n_sum (pe_ix (ixU al) (pe_fldU K (pv 0) rfl) (pv 4) (fun _ _ => rfl))) (pe_gi c_MOST_LED rfl) (nomark _)) (pss_one ps_never) pss_nil))))))))))), ?_⟩
    repeat tb_start
    refine new_dK S fun a H1 S1 => ?_
    repeat tb_start
    refine sfdQ 1 S1 rfl clP nRows (by decide) rfl fun H2 S2 => ?_
    repeat tb_start
    refine new_dK S2 fun l H3 S3 => ?_
    repeat tb_start
    refine sfdQ 2 S3 rfl clP nLed (by show 1 < 1000; decide) rfl fun H4 S4 => ?_
    replace S4 : Ok ⟨B, H, [p]⟩ B [(l, .dK []), (a, .dK []), (p, .ins CP dx (fldsP a l))] H4 := S4
    repeat tb_start
    refine enuD S4 hv fun J src => ?_
    refine forDS src S4 (fun i σ B1 L1 => ∃ x1 x2 x3 x4 x5 x6 x7 rkv lkv, σ = [some (.ref p), some v, x1, x2, x3, x4, x5, x6, x7] ∧ RowKV K B1 rkv (rs.take i) ∧ LedKV B1 lkv (ledOf (rs.take i)) ∧ L1 = [(l, .dK lkv), (a, .dK rkv), (p, .ins CP dx (fldsP a l))])
      (fun i σ B1 L1 e _ => e) ?_ ?_ ?_
    · exact ⟨_, _, _, _, _, _, _, _, _, rfl, .nil, .nil, rfl⟩
    · rintro i y xv σ B1 B3 L1 H5 hget ⟨_, _, _, _, _, _, _, rkv, lkv, rfl, RK0, LK0, rfl⟩ e3 e4 S5 ⟨T, u, rfl, hT, hu⟩
      obtain ⟨hr1, hr2⟩ := zipIdx_at hget
      have RK := RK0.up e4
      have LK := LK0.up e4
      have R := G.row i _ hr1
      have hi : i < rs.length := (List.getElem?_eq_some_iff.mp hr1).1
      have hlen := G.len
      refine r_gtupB S5 hT rfl ?_
      repeat tb_start
      have names_len : ((rs.take i).map (·.name)).length ≤ 12 := by rw [List.length_map, List.length_take]; omega
      refine ⟨B3, p, dx, a, l, u, rkv, (rs.take i).map (·.name), y.1, rfl, S5.ex, by kts_caught, by kts_caught, RK.keys, hu, R, names_len, fun B6 H6 T6 => ?_⟩
      have S6 := S5.callP T6
      have e6 := T6.ex0
      repeat tb_start
      refine r_gtupRow S6 (hu.up e6) fun v2 v3 h2 h3 => ?_
      repeat tb_start
      refine v_tupDT S6 h2 ?_
      repeat tb_start
      refine v_tupDT S6 h3 ?_
      repeat tb_start
      refine new_tupD S6 (.cons h2 (.cons h3 (.cons (.int _) (.cons (.int _) .nil)))) (by simp) fun t B7 H7 e7 S7 ht => ?_
      repeat tb_start
      refine v_setKN (k := .inr y.1.name) 1 S7 rfl rfl ?_ fun H8 S8 => ?_
      · have := congrArg List.length RK.keys
        rw [List.length_map, List.length_map] at this
        rw [this, sizeLine_eq]
        omega
      have no : valV rkv (.inr y.1.name) = none := valV_none (by
        rw [RK.keys]
        intro z
        obtain ⟨x, hx, e⟩ := List.mem_map.mp z
        exact R.new (Sum.inr.inj e ▸ hx))
      rw [putK_new _ no] at S8
      replace S8 : Ok ⟨B, H, [p]⟩ B7 [(l, .dK lkv), (a, .dK (rkv ++ [(.inr y.1.name, .ref t)])), (p, .ins CP dx (fldsP a l))] H8 := S8
      have RK8 : RowKV K B7 (rkv ++ [(.inr y.1.name, .ref t)]) (rs.take (i + 1)) := by
        rw [List.take_add_one, hr1]
        exact ((RK.up e6).up e7).snoc ht
      have LK8 := (LK.up e6).up e7
      repeat tb_start
      refine ⟨B7, p, dx, a, l, v2, _, lkv, (rs.take i).map (·.name) ++ [y.1.name], ledOf (rs.take i), y.1.needs, rfl, S8.ex, by kts_caught, S8.mem (.tail _ (.head _)), (S8.own _ (.tail _ (.head _))).2, ?_, ?_, ?_, by kts_caught, LK8, h2.up e7, G.needs hr1, fun D B9 H9 e9 T9 => ?_⟩
      · rw [← take_succ_map hr1]
        exact RK8.keys
      · rw [← take_succ_map hr1]
        exact G.nodup _
      · rw [← take_succ_map hr1, List.length_map, List.length_take]; omega
      have S9 := S8.callN T9
      have hm : ledTo ((rs.take i).map (·.name) ++ [y.1.name]) (ledOf (rs.take i)) y.1.needs = ledTo ((ledOf (rs.take i)).map (·.1) ++ [y.1.name]) (ledOf (rs.take i)) y.1.needs := by rw [ledOf_names]
      rw [hm] at S9
      have hstep : ledOf (rs.take (i + 1)) = ledOf (rs.take i) ++ [(y.1.name, ledTo ((ledOf (rs.take i)).map (·.1) ++ [y.1.name]) (ledOf (rs.take i)) y.1.needs)] := ledOf_take hr1
      generalize ledTo ((ledOf (rs.take i)).map (·.1) ++ [y.1.name]) (ledOf (rs.take i)) y.1.needs = m at S9 hstep
      have hsum : (m.map (·.2)).sum ≤ 200 := G.led (y.1.name, m) (ledOf_sub (i + 1) _ (by rw [hstep]; exact List.mem_append_right _ (.head _)))
      repeat tb_start
      refine v_setKN (k := .inr y.1.name) 1 S9 rfl rfl ?_ fun H10 S10 => ?_
      · have := congrArg List.length LK.keys
        have h2 := congrArg List.length (ledOf_names (rs.take i))
        rw [List.length_map, List.length_map] at this h2
        rw [List.length_take] at h2
        rw [this, sizeLine_eq]
        omega
      have noL : valV lkv (.inr y.1.name) = none := valV_none (by
        rw [LK.keys]
        intro z
        obtain ⟨x, hx, e⟩ := List.mem_map.mp z
        refine R.new ?_
        rw [← ledOf_names]
        exact List.mem_map.mpr ⟨x, hx, Sum.inr.inj e⟩)
      rw [putK_new _ noL] at S10
      replace S10 : Ok ⟨B, H, [p]⟩ B9 [(D, .dK (kvI m)), (l, .dK (lkv ++ [(.inr y.1.name, .ref D)])), (a, .dK (rkv ++ [(.inr y.1.name, .ref t)])), (p, .ins CP dx (fldsP a l))] H10 := S10
      repeat tb_start
      refine frzS (S10.own _ (.head _)).1 trivial fun od => ?_
      obtain ⟨B11, e11, hD, S11⟩ := S10.freezeD (od := od)
      repeat tb_start
      refine v_ixDS (kvs := lkv ++ [(.inr y.1.name, .ref D)]) (by kts_caught) (by rw [valV_snoc _ _ _ _ noL, if_pos rfl]) ?_
      refine sumQ (by kts_caught) (kvI_vals m) ?_
      repeat tb_start
      refine NxE.mk' S11 (e3.trans <| e4.trans (e6.trans (e7.trans (e9.trans e11)))) ?_
      refine ⟨_, _, _, _, _, _, _, _, _, rfl, (RK8.up e9).up e11, ?_, rfl⟩
      rw [hstep]
      exact ((LK8.up e9).up e11).snoc hD
    · rintro σ B1 L1 H5 ⟨_, _, _, _, _, _, _, rkv, lkv, rfl, RK, LK, rfl⟩ e3 S5
      rw [List.length_zipIdx, List.take_length] at RK LK
      exact k a l rkv lkv _ _ e3 RK LK S5
end
end LW

namespace LW
open PySem PySem.Spec PyProof.Rows L2 WK PM
abbrev s_need_many : Stmt := topS 22
theorem sc_need_many : FnScope ["number", "low", "high"] ["number", "low", "high"] (defScope s_need_many) := ⟨rfl, rfl, rfl, by decide +kernel, rfl, by decide +kernel, by decide +kernel⟩
abbrev s_Parts_needs_of : Stmt := inClass (topS 21) 3
theorem sc_Parts_needs_of : FnScope ["self", "name"] ["self", "name"] (defScope s_Parts_needs_of) := ⟨rfl, rfl, rfl, by decide +kernel, rfl, by decide +kernel, by decide +kernel⟩
abbrev s_Parts_steps_of : Stmt := inClass (topS 21) 4
theorem sc_Parts_steps_of : FnScope ["self", "name"] ["self", "name"] (defScope s_Parts_steps_of) := ⟨rfl, rfl, rfl, by decide +kernel, rfl, by decide +kernel, by decide +kernel⟩
abbrev s_Parts_is_bought : Stmt := inClass (topS 21) 5
theorem sc_Parts_is_bought : FnScope ["self", "name"] ["self", "name"] (defScope s_Parts_is_bought) := ⟨rfl, rfl, rfl, by decide +kernel, rfl, by decide +kernel, by decide +kernel⟩
abbrev s_Parts_need_part : Stmt := inClass (topS 21) 6
theorem sc_Parts_need_part : FnScope ["self", "name"] ["self", "name"] (defScope s_Parts_need_part) := ⟨rfl, rfl, rfl, by decide +kernel, rfl, by decide +kernel, by decide +kernel⟩
def spNeedMany : Sp := fun vs H Q _ => ∃ (n lo hi : Int), vs = [.int n, .int lo, .int hi] ∧ lo ≤ n ∧ n ≤ hi ∧ Q .non H
/-- a book that stands -/
def spNeedsOf (K : PySem.W.Frag) (CP : Addr) : Sp := fun vs H Q _ => ∃ (B : Hp) (p : Addr) (rs : List PRow) (r : PRow) (z : Str), vs = [.ref p, .str z] ∧ Ex B H ∧ BookAt K CP B p rs ∧ rowOf rs z = some r ∧ ∀ v, Dp K B v (.tuple (r.needs.map encNeed)) → Q v H
def spStepsOf (K : PySem.W.Frag) (CP : Addr) : Sp := fun vs H Q _ => ∃ (B : Hp) (p : Addr) (rs : List PRow) (r : PRow) (z : Str), vs = [.ref p, .str z] ∧ Ex B H ∧ BookAt K CP B p rs ∧ rowOf rs z = some r ∧ ∀ v, Dp K B v (.tuple (r.steps.map encStep)) → Q v H
def spIsBought (K : PySem.W.Frag) (CP : Addr) : Sp := fun vs H Q _ => ∃ (B : Hp) (p : Addr) (rs : List PRow) (r : PRow) (z : Str), vs = [.ref p, .str z] ∧ Ex B H ∧ BookAt K CP B p rs ∧ rowOf rs z = some r ∧ ∀ B' H', Ok ⟨B, H, []⟩ B' [] H' → Q (.bl (r.needs.isEmpty && r.steps.isEmpty)) H'
def spNeedPart (K : PySem.W.Frag) (CP : Addr) : Sp := fun vs H Q _ => ∃ (B : Hp) (p : Addr) (rs : List PRow) (r : PRow) (z : Str), vs = [.ref p, .str z] ∧ Ex B H ∧ BookAt K CP B p rs ∧ rowOf rs z = some r ∧ Q .non H
theorem rowKV_get {K : PySem.W.Frag} {B : Hp} {kvs : List (Key × V)} {rs : List PRow} {z : Str} {r : PRow} (h : RowKV K B kvs rs) (e : rowOf rs z = some r) : ∃ v, valV kvs (.inr z) = some v ∧ Dp K B v (encRest r) := by
  induction h with
  | nil => simp [rowOf] at e
  | @cons v q kvs rs hv h ih =>
    unfold rowOf at e ih
    by_cases hz : q.name = z
    · rw [List.find?_cons_of_pos (by simpa using hz)] at e
      cases e
      exact ⟨v, by unfold valV; rw [List.find?_cons_of_pos (by simp [hz])]; rfl, hv⟩
    · rw [List.find?_cons_of_neg (by simpa using hz)] at e
      obtain ⟨u, h1, h2⟩ := ih e
      exact ⟨u, by unfold valV at h1 ⊢; rw [List.find?_cons_of_neg (by simp [hz])]; exact h1, h2⟩
section
variable {P : Program} {w : World} {K : PySem.W.Frag} {mg : Str → Option Value} {base : Heap}
theorem ok_need_many {f : Addr} {fd : FuncData} (F : Fun K "need_many" "need_many" s_need_many f fd) : FnOk P w K mg base CX0 1 f fd ["number", "low", "high"] spNeedMany := by
  refine F.ok sc_need_many (fun vs H Q E h => ?_) (fun cdv A outer s H vs Q E hr h => ?_)
  · obtain ⟨n, lo, hi, rfl, _⟩ := h
    rfl
  · obtain ⟨n, lo, hi, rfl, h1, h2, k⟩ := h
    refine with_al (P := P) (w := w) (K := K) hr (fun al => ?_)
    refine ⟨_, (pss_one (ps_if (pt_not (pt_chain (opU al) (opU al) (pv 1) (pv 0) (pv 2))) (pss_one ps_never) pss_nil)), ?_⟩
    repeat tb_start
    exact k
theorem ok_needs_of {f CP : Addr} {fd : FuncData} (F : Fun K "needs_of" "Parts.needs_of" s_Parts_needs_of f fd) (clP : Cls K CP) (nRows : NoAttr K CP "rows") : FnOk P w K mg base CX0 1 f fd ["self", "name"] (spNeedsOf K CP) := by
  refine F.ok sc_Parts_needs_of (fun vs H Q E h => ?_) (fun cdv A outer s H vs Q E hr h => ?_)
  · obtain ⟨B, p, rs, r, z, rfl, _⟩ := h
    rfl
  · obtain ⟨B, p, rs, r, z, rfl, ex, ⟨dx, a, l, rkv, lkv, h1, h2, h3, RK, LK⟩, e, k⟩ := h
    have S := Ok.start0 ex
    obtain ⟨v, hv1, hv2⟩ := rowKV_get RK e
    refine with_al (P := P) (w := w) (K := K) hr (fun al => ?_)
    refine ⟨_, (pss_one (ps_ret (pe_ix (ixU al) (pe_ix (ixU al) (pe_fldU K (pv 0) rfl) (pv 1) (fun _ _ => rfl)) pe_int (fun _ _ => rfl)))), ?_⟩
    repeat tb_start
    refine v_ixDS (kvs := rkv) (by kts_caught) hv1 ?_
    repeat tb_start
    exact v_ixDT (j := 0) S hv2 rfl rfl fun u hu => k u hu
theorem ok_steps_of {f CP : Addr} {fd : FuncData} (F : Fun K "steps_of" "Parts.steps_of" s_Parts_steps_of f fd) (clP : Cls K CP) (nRows : NoAttr K CP "rows") : FnOk P w K mg base CX0 1 f fd ["self", "name"] (spStepsOf K CP) := by
  refine F.ok sc_Parts_steps_of (fun vs H Q E h => ?_) (fun cdv A outer s H vs Q E hr h => ?_)
  · obtain ⟨B, p, rs, r, z, rfl, _⟩ := h
    rfl
  · obtain ⟨B, p, rs, r, z, rfl, ex, ⟨dx, a, l, rkv, lkv, h1, h2, h3, RK, LK⟩, e, k⟩ := h
    have S := Ok.start0 ex
    obtain ⟨v, hv1, hv2⟩ := rowKV_get RK e
    refine with_al (P := P) (w := w) (K := K) hr (fun al => ?_)
    refine ⟨_, (pss_one (ps_ret (pe_ix (ixU al) (pe_ix (ixU al) (pe_fldU K (pv 0) rfl) (pv 1) (fun _ _ => rfl)) pe_int (fun _ _ => rfl)))), ?_⟩
    repeat tb_start
    refine v_ixDS (kvs := rkv) (by kts_caught) hv1 ?_
    repeat tb_start
    exact v_ixDT (j := 1) S hv2 rfl rfl fun u hu => k u hu
theorem ok_is_bought {f CP : Addr} {fd : FuncData} (F : Fun K "is_bought" "Parts.is_bought" s_Parts_is_bought f fd) (G_needs_of : MtG P w K mg base 1 CP "needs_of" ["self", "name"] (spNeedsOf K CP)) (G_steps_of : MtG P w K mg base 1 CP "steps_of" ["self", "name"] (spStepsOf K CP)) (clP : Cls K CP) : FnOk P w K mg base CX0 2 f fd ["self", "name"] (spIsBought K CP) := by
  refine F.ok sc_Parts_is_bought (fun vs H Q E h => ?_) (fun cdv A outer s H vs Q E hr h => ?_)
  · obtain ⟨B, p, rs, r, z, rfl, _⟩ := h
    rfl
  · obtain ⟨B, p, rs, r, z, rfl, ex, bk, e, k⟩ := h
    have S := Ok.start0 ex
    obtain ⟨dx, a, l, rkv, lkv, h1, h2, h3, RK, LK⟩ := id bk
    refine with_al (P := P) (w := w) (K := K) hr (fun al => ?_)
    refine ⟨_, (pss_one (ps_ret (pe_and (pe_cmpR (opU al) (pe_mth G_needs_of (hr.mono (by first | decide | omega)) (pv 0) (pa_cons (pv 1) pa_nil)) (pe_tup pa_nil) (nomark _)) (pe_one (pe_cmpR (opU al) (pe_mth G_steps_of (hr.mono (by first | decide | omega)) (pv 0) (pa_cons (pv 1) pa_nil)) (pe_tup pa_nil) (nomark _)))))), ?_⟩
    repeat tb_start
    refine ⟨B, p, rs, r, z, rfl, S.ex, bk, e, fun v hv => ?_⟩
    repeat tb_start
    refine new_tup S (by decide) fun t1 B1 H1 e1 ht1 S1 => ?_
    repeat tb_start
    refine v_eqTNilD S1 (hv.up e1) (S1.tqStay ht1) ?_
    have hn : (r.needs.map encNeed).isEmpty = r.needs.isEmpty := by cases r.needs <;> rfl
    have hs : (r.steps.map encStep).isEmpty = r.steps.isEmpty := by cases r.steps <;> rfl
    rw [hn]
    repeat tb_start
    refine ifb (fun hb => ?_) (fun hb => ?_)
    · repeat tb_start
      refine ⟨B1, p, rs, r, z, rfl, S1.ex, bk.up e1, e, fun v2 hv2 => ?_⟩
      repeat tb_start
      refine new_tup S1 (by decide) fun t2 B2 H2 e2 ht2 S2 => ?_
      repeat tb_start
      refine v_eqTNilD S2 (hv2.up e2) (S2.tqStay ht2) ?_
      rw [hs]
      have q := k _ _ S2
      rw [hb, Bool.true_and] at q
      exact q
    · have q := k _ _ S1
      rw [hb, Bool.false_and] at q
      exact q
theorem ok_need_part {f CP : Addr} {fd : FuncData} (F : Fun K "need_part" "Parts.need_part" s_Parts_need_part f fd) (clP : Cls K CP) (nRows : NoAttr K CP "rows") : FnOk P w K mg base CX0 1 f fd ["self", "name"] (spNeedPart K CP) := by
  refine F.ok sc_Parts_need_part (fun vs H Q E h => ?_) (fun cdv A outer s H vs Q E hr h => ?_)
  · obtain ⟨B, p, rs, r, z, rfl, _⟩ := h
    rfl
  · obtain ⟨B, p, rs, r, z, rfl, ex, ⟨dx, a, l, rkv, lkv, h1, h2, h3, RK, LK⟩, e, k⟩ := h
    have S := Ok.start0 ex
    obtain ⟨v, hv1, hv2⟩ := rowKV_get RK e
    refine with_al (P := P) (w := w) (K := K) hr (fun al => ?_)
    refine ⟨_, (pss_one (ps_if (pt_cmpR (opU al) (pv 1) (pe_fldU K (pv 0) rfl) rfl) (pss_one ps_never) pss_nil)), ?_⟩
    repeat tb_start
    have yes : (valV rkv (.inr z)).isSome = true := by rw [hv1]; rfl
    rw [yes]
    repeat tb_start
    exact k
end
end LW

namespace LW
open PySem PySem.Spec PyProof.Rows L2 WK PM
abbrev s_Piece___init__ : Stmt := inClass (topS 34) 0
theorem sc_Piece___init__ : FnScope ["self", "part"] ["self", "part"] (defScope s_Piece___init__) := ⟨rfl, rfl, rfl, by decide +kernel, rfl, by decide +kernel, by decide +kernel⟩
abbrev s_Floor___init__ : Stmt := inClass (topS 35) 0
theorem sc_Floor___init__ : FnScope ["self", "parts", "rates", "rate"] ["self", "parts", "rates"] (defScope s_Floor___init__) := ⟨rfl, rfl, rfl, by decide +kernel, rfl, by decide +kernel, by decide +kernel⟩
abbrev s_Floor_piece : Stmt := inClass (topS 35) 1
theorem sc_Floor_piece : FnScope ["self", "number", "states", "found"] ["self", "number", "states"] (defScope s_Floor_piece) := ⟨rfl, rfl, rfl, by decide +kernel, rfl, by decide +kernel, by decide +kernel⟩
def spPieceI (CI : Addr) : Sp := fun vs H Q _ => ∃ (B : Hp) (p dx : Addr) (z : Str), vs = [.ref p, .str z] ∧ Ok ⟨B, H, [p]⟩ B [(p, .ins CI dx [])] H ∧ ∀ l pp H', Ok ⟨B, H, [p]⟩ B (pcC CI ⟨p, dx, l, pp, newPc z⟩) H' → Q .non H'
def spFInit (K : PySem.W.Frag) (CP CF CL CI : Addr) : Sp := fun vs H Q _ => ∃ (B : Hp) (f dx : Addr) (v rv : V) (rs : List PRow) (rates : List Int), vs = [.ref f, v, rv] ∧ Ok ⟨B, H, [f]⟩ B [(f, .ins CF dx [])] H ∧ Dpl K B v (rs.map encRow) ∧ GoodBook rs ∧ Stays K ⟨B, H, [f]⟩ B rv (rates.map V.int) ∧ rates.length = 6 ∧ (∀ x ∈ rates, 0 ≤ x ∧ x ≤ 99) ∧
  ∀ A B' H', Ex B B' → Ok ⟨B, H, [f]⟩ B' (FL CF CL CI A) H' → FB K CP B' A → A.st = Fl.new rs rates → A.f = f → Q .non H'
def spPiece (K : PySem.W.Frag) (CF CI : Addr) : Sp := fun vs H Q _ => ∃ (A : AFl) (k : Nat) (P : APc) (a : Addr) (ss : List Str), vs = [.ref A.f, .int (k : Int), .ref a] ∧ H A.f = some (.ins CF A.dx (flF A)) ∧ H A.pa = some (.lst (A.pcs.map fun P => .ref P.a)) ∧ A.pcs[k]? = some P ∧ H P.a = some (.ins CI P.dx (pcF P)) ∧
  SqT K H a (ss.map V.str) ∧ P.s.state ∈ ss ∧ A.pcs.length ≤ 10000 ∧ Q (.ref P.a) H
section
variable {P : Program} {w : World} {K : PySem.W.Frag} {mg : Str → Option Value} {base : Heap}
theorem ok_piece_init {f CP CF CL CI : Addr} {fd : FuncData} (F : Fun K "__init__" "Piece.__init__" s_Piece___init__ f fd) (fk : FlK K CP CF CL CI) (c_MAKING : GlS mg "MAKING" "making") : FnOk P w K mg base CX0 1 f fd ["self", "part"] (spPieceI CI) := by
  obtain ⟨cP, cF, cL, cI, a1, a2, b1, b2, b3, b4, b5, b6, b7, c1, c2, c3, d1, d2, d3, d4, d5, d6, d7, d8⟩ := fk
  refine F.ok sc_Piece___init__ (fun vs H Q E h => ?_) (fun cdv A outer s H vs Q E hr h => ?_)
  · obtain ⟨B, p, dx, z, rfl, _⟩ := h
    rfl
  · obtain ⟨B, p, dx, z, rfl, S, k⟩ := h
    refine with_al (P := P) (w := w) (K := K) hr (fun al => ?_)
    refine ⟨_, (pss_cons (ps_fldK K (pv 0) (pv 1) rfl) (pss_cons (ps_fldK K (pv 0) (pe_gs c_MAKING rfl) rfl) (pss_cons (ps_fldK K (pv 0) pe_int rfl) (pss_cons (ps_fldK K (pv 0) pe_int rfl) (pss_cons (ps_fldK K (pv 0) pe_dnewK rfl) (pss_cons (ps_fldK K (pv 0) (pe_lst pa_nil) rfl) (pss_cons (ps_fldK K (pv 0) pe_non rfl) (pss_one (ps_fldK K (pv 0) pe_non rfl))))))))), ?_⟩
    repeat tb_start
    refine sfdQ 0 S rfl cI d1 (by decide) rfl fun H1 S1 => ?_
    repeat tb_start
    refine sfdQ 0 S1 rfl cI d2 (by show 1 < 1000; decide) rfl fun H2 S2 => ?_
    repeat tb_start
    refine sfdQ 0 S2 rfl cI d3 (by show 2 < 1000; decide) rfl fun H3 S3 => ?_
    repeat tb_start
    refine sfdQ 0 S3 rfl cI d4 (by show 3 < 1000; decide) rfl fun H4 S4 => ?_
    repeat tb_start
    refine new_dK S4 fun l H5 S5 => ?_
    repeat tb_start
    refine sfdQ 1 S5 rfl cI d5 (by show 4 < 1000; decide) rfl fun H6 S6 => ?_
    repeat tb_start
    refine new_lst S6 (by decide) fun pp H7 S7 => ?_
    repeat tb_start
    refine sfdQ 2 S7 rfl cI d6 (by show 5 < 1000; decide) rfl fun H8 S8 => ?_
    repeat tb_start
    refine sfdQ 2 S8 rfl cI d7 (by show 6 < 1000; decide) rfl fun H9 S9 => ?_
    repeat tb_start
    refine sfdQ 2 S9 rfl cI d8 (by show 7 < 1000; decide) rfl fun H10 S10 => ?_
    exact k l pp _ (S10.pick [2, 1, 0] (by decide))
theorem ok_floor_init {f CP CF CL CI : Addr} {fd : FuncData} (F : Fun K "__init__" "Floor.__init__" s_Floor___init__ f fd) (G_Parts : MkG P w K mg base 3 CP "Parts" ["self", "told"] (spPInit K CP)) (G_need_many : FnG P w K mg base 1 "need_many" ["number", "low", "high"] spNeedMany) (fk : FlK K CP CF CL CI)
    (n_len : mg "len" = none) (n_tuple : mg "tuple" = none) (c_MACHINES : GlI mg "MACHINES" 6) (c_MOST_RATE : GlI mg "MOST_RATE" 99) : FnOk P w K mg base CX0 5 f fd ["self", "parts", "rates"] (spFInit K CP CF CL CI) := by
  obtain ⟨cP, cF, cL, cI, a1, a2, b1, b2, b3, b4, b5, b6, b7, c1, c2, c3, d1, d2, d3, d4, d5, d6, d7, d8⟩ := fk
  refine F.ok sc_Floor___init__ (fun vs H Q E h => ?_) (fun cdv A outer s H vs Q E hr h => ?_)
  · obtain ⟨B, p, dx, v, rv, rs, rates, rfl, _⟩ := h
    rfl
  · obtain ⟨B, p, dx, v, rv, rs, rates, rfl, S, hv, G, ⟨ra, rfl, hst⟩, h6, hb, k⟩ := h
    refine with_al (P := P) (w := w) (K := K) hr (fun al => ?_)
    refine ⟨_, (pss_cons (ps_fldK K (pv 0) (pe_mk G_Parts (hr.mono (by first | decide | omega)) rfl (pa_cons (pv 1) pa_nil)) rfl) (pss_cons (ps_cut (ps_if (pt_cmpR (opU al) (pe_callB (callU al) (by rfl) n_len b_len (pa_cons (pv 2) pa_nil)) (pe_gi c_MACHINES rfl) (nomark _)) (pss_one ps_never) pss_nil)) (pss_cons (ps_cut (ps_for PassesOwn.never rfl (pi_val al (pv 2)) (pg_name (i := 3) sc_Floor___init__.nd rfl (by first | exact Or.inl rfl | exact Or.inr rfl)) (pss_one (ps_expr (pe_fn G_need_many (hr.mono (by first | decide | omega)) rfl (pa_cons (pv 3) (pa_cons pe_int (pa_cons (pe_gi c_MOST_RATE rfl) pa_nil)))))))) (pss_cons (ps_cut (ps_fldK K (pv 0) (pe_callTy (callU al) (by rfl) n_tuple b_tuple (pa_cons (pv 2) pa_nil)) rfl)) (pss_cons (ps_fldK K (pv 0) (pe_lst pa_nil) rfl) (pss_cons (ps_fldK K (pv 0) (pe_lst pa_nil) rfl) (pss_cons (ps_fldK K (pv 0) (pe_lst pa_nil) rfl) (pss_cons (ps_fldK K (pv 0) pe_int rfl) (pss_one (ps_fldK K (pv 0) pe_int rfl)))))))))), ?_⟩
    repeat tb_start
    refine mkQ S fun x dx1 H1 S1 => ?_
    refine ⟨B, x, dx1, v, rs, rfl, S1.sub (L1 := [_]), hv, G, fun a l rkv lkv B2 H2 e2 RK LK T2 => retQ ?_⟩
    have S2 : Ok ⟨B, H, [p]⟩ B2 [(l, .dK lkv), (a, .dK rkv), (x, .ins CP dx1 (fldsP a l)), (p, .ins CF dx [])] H2 := S1.call (L1 := [_]) (L2 := [_]) T2
    obtain ⟨B3, e3, bk, S3⟩ : ∃ B3, Ex B2 B3 ∧ BookAt K CP B3 x rs ∧ Ok ⟨B, H, [p]⟩ B3 [(p, .ins CF dx [])] H2 := by
      have f1 := S2.exF
      have S2a := S2.freeze
      have f2 := S2a.exF
      have S2b := S2a.freeze
      have f3 := S2b.exF
      have S2c := S2b.freeze
      refine ⟨_, f1.trans (f2.trans f3), ⟨dx1, a, l, rkv, lkv, upd_same, f3 _ _ upd_same, f3 _ _ (f2 _ _ upd_same), RK.up (f1.trans (f2.trans f3)), LK.up (f1.trans (f2.trans f3))⟩, S2c⟩
    clear S2 S1 T2
    have e03 : Ex B B3 := e2.trans e3
    repeat tb_start
    refine sfdQ 0 S3 rfl cF b1 (by decide) rfl fun H4 S4 => ?_
    repeat tb_start
    have S5 : Ok ⟨B, H, [p]⟩ B3 [(p, .ins CF dx [("book", .ref x)])] H4 := S4
    clear S4 S3
    have hlen : (rates.map V.int).length = 6 := by rw [List.length_map]; exact h6
    refine cutS (fun σ' H' => (∃ yy3, σ' = [some (.ref p), some (v), some (.ref ra), yy3]) ∧ Ok ⟨B, H, [p]⟩ B3 [(p, .ins CF dx [("book", .ref x)])] H') ?_ ?_
    · repeat tb_start
      rcases hst with hst | hst
      · refine v_lenL (hst _ _ _ e03 S5) ?_
        rw [hlen]
        repeat tb_start
        exact ⟨⟨_, rfl⟩, S5⟩
      · refine v_lenT (S5.tqB (e03.sqT hst)) ?_
        rw [hlen]
        repeat tb_start
        exact ⟨⟨_, rfl⟩, S5⟩
    rintro σ6 H6 ⟨⟨_, rfl⟩, S6⟩
    repeat tb_start
    refine cutS (fun σ' H' => (∃ yy3, σ' = [some (.ref p), some (v), some (.ref ra), yy3]) ∧ Ok ⟨B, H, [p]⟩ B3 [(p, .ins CF dx [("book", .ref x)])] H') ?_ ?_
    · have turn : ∀ (i : Nat) (y : V), (rates.map V.int)[i]? = some y → ∃ z : Int, y = .int z ∧ 0 ≤ z ∧ z ≤ 99 := fun i y hy => by
        rw [List.getElem?_map] at hy
        obtain ⟨z, h1, rfl⟩ := Option.map_eq_some_iff.mp hy
        exact ⟨z, rfl, hb z (List.mem_of_getElem? h1)⟩
      repeat tb_start
      rcases hst with hst | hst
      · refine forL (hst _ _ _ e03 S6) (fun i σ H' => (∃ yy3, σ = [some (.ref p), some (v), some (.ref ra), yy3]) ∧ Ok ⟨B, H, [p]⟩ B3 [(p, .ins CF dx [("book", .ref x)])] H') ?_ ?_ ?_ ?_
        · rintro i σ H7 _ ⟨⟨_, rfl⟩, S7⟩
          exact hst _ _ _ e03 S7
        · exact ⟨⟨_, rfl⟩, S6⟩
        · rintro i y σ H7 hy ⟨⟨_, rfl⟩, S7⟩
          obtain ⟨z, rfl, z0, z1⟩ := turn i y hy
          repeat tb_start
          refine ⟨z, 0, 99, rfl, z0, z1, ?_⟩
          exact ⟨⟨_, rfl⟩, S7⟩
        · rintro σ H7 ⟨⟨_, rfl⟩, S7⟩
          exact ⟨⟨_, rfl⟩, S7⟩
      · refine forT (S6.tqB (e03.sqT hst)) (fun i σ H' => (∃ yy3, σ = [some (.ref p), some (v), some (.ref ra), yy3]) ∧ Ok ⟨B, H, [p]⟩ B3 [(p, .ins CF dx [("book", .ref x)])] H') ?_ ?_ ?_ ?_
        · rintro i σ H7 _ ⟨⟨_, rfl⟩, S7⟩
          exact S7.tqB (e03.sqT hst)
        · exact ⟨⟨_, rfl⟩, S6⟩
        · rintro i y σ H7 hy ⟨⟨_, rfl⟩, S7⟩
          obtain ⟨z, rfl, z0, z1⟩ := turn i y hy
          repeat tb_start
          refine ⟨z, 0, 99, rfl, z0, z1, ?_⟩
          exact ⟨⟨_, rfl⟩, S7⟩
        · rintro σ H7 ⟨⟨_, rfl⟩, S7⟩
          exact ⟨⟨_, rfl⟩, S7⟩
    rintro σ7 H7 ⟨⟨_, rfl⟩, S7⟩
    repeat tb_start
    refine cutS (fun σ' H' => (∃ yy3, σ' = [some (.ref p), some (v), some (.ref ra), yy3]) ∧ ∃ B' rt, Ex B3 B' ∧ Dp K B' rt (.tuple (rates.map PyData.int)) ∧ Ok ⟨B, H, [p]⟩ B' [(p, .ins CF dx [("book", .ref x), ("rates", rt)])] H') ?_ ?_
    · repeat tb_start
      rcases hst with hst | hst
      · refine v_tupleL S7 (hst _ _ _ e03 S7) fun t B8 H8 e8 ht S8 => ?_
        repeat tb_start
        refine sfdQ 0 S8 rfl cF b2 (by show 1 < 1000; decide) rfl fun H9 S9 => ?_
        exact ⟨⟨_, rfl⟩, _, _, e8, Dp.ofTup ht (dpInts _), S9⟩
      · refine v_tupleT (S7.tqB (e03.sqT hst)) ?_
        repeat tb_start
        refine sfdQ 0 S7 rfl cF b2 (by show 1 < 1000; decide) rfl fun H9 S9 => ?_
        exact ⟨⟨_, rfl⟩, _, _, Ex.refl _, .tup (e03.sqT hst) (dpInts _), S9⟩
    rintro σ8 H8 ⟨⟨_, rfl⟩, B8, rt, e8, hrt, S8⟩
    repeat tb_start
    refine new_lst S8 (by decide) fun la H9 S9 => ?_
    repeat tb_start
    refine sfdQ 1 S9 rfl cF b3 (by show 2 < 1000; decide) rfl fun H10 S10 => ?_
    repeat tb_start
    refine new_lst S10 (by decide) fun pa H11 S11 => ?_
    repeat tb_start
    refine sfdQ 2 S11 rfl cF b4 (by show 3 < 1000; decide) rfl fun H12 S12 => ?_
    repeat tb_start
    refine new_lst S12 (by decide) fun na H13 S13 => ?_
    repeat tb_start
    refine sfdQ 3 S13 rfl cF b5 (by show 4 < 1000; decide) rfl fun H14 S14 => ?_
    repeat tb_start
    refine sfdQ 3 S14 rfl cF b6 (by show 5 < 1000; decide) rfl fun H15 S15 => ?_
    repeat tb_start
    refine sfdQ 3 S15 rfl cF b7 (by show 6 < 1000; decide) rfl fun H16 S16 => ?_
    refine k ⟨p, dx, x, la, pa, na, rt, [], rs, rates, [], [], [], 0, 0⟩ B8 H16 (e03.trans e8) (S16.pick [3, 2, 1, 0] (by decide)) ⟨bk.up e8, hrt, .nil, G, h6, Nat.zero_le _⟩ rfl rfl
theorem ok_piece {f CP CF CL CI : Addr} {fd : FuncData} (F : Fun K "piece" "Floor.piece" s_Floor_piece f fd) (fk : FlK K CP CF CL CI) (n_len : mg "len" = none) : FnOk P w K mg base CX0 1 f fd ["self", "number", "states"] (spPiece K CF CI) := by
  obtain ⟨cP, cF, cL, cI, a1, a2, b1, b2, b3, b4, b5, b6, b7, c1, c2, c3, d1, d2, d3, d4, d5, d6, d7, d8⟩ := fk
  refine F.ok sc_Floor_piece (fun vs H Q E h => ?_) (fun cdv A outer s H vs Q E hr h => ?_)
  · obtain ⟨A, k, P, a, ss, rfl, _⟩ := h
    rfl
  · obtain ⟨A, j, Pc, a, ss, rfl, hF, hL, hP, hPa, hs, hm, hle, k⟩ := h
    have hj : j < A.pcs.length := (List.getElem?_eq_some_iff.mp hP).1
    have hsl : SqL K H A.pa (A.pcs.map fun P => .ref P.a) := .inl (.inl hL)
    refine with_al (P := P) (w := w) (K := K) hr (fun al => ?_)
    refine ⟨_, (pss_cons (ps_if (pt_not (pt_chain (opU al) (opU al) pe_int (pv 1) (pe_callB (callU al) (by rfl) n_len b_len (pa_cons (pe_fldU K (pv 0) rfl) pa_nil)))) (pss_one ps_never) pss_nil) (pss_cons (ps_asg (pe_ix (ixU al) (pe_fldU K (pv 0) rfl) (pv 1) (fun _ _ => rfl)) (pg_name (i := 3) sc_Floor_piece.nd rfl (by first | exact Or.inl rfl | exact Or.inr rfl))) (pss_cons (ps_if (pt_cmpR (opU al) (pe_fldU K (pv 3) rfl) (pv 2) rfl) (pss_one ps_never) pss_nil) (pss_one (ps_ret (pv 3)))))), ?_⟩
    repeat tb_start
    refine v_ixL hsl (atI_nat (by rw [List.getElem?_map, hP]; rfl)) ?_
    repeat tb_start
    refine v_notInT hs ?_
    rw [decide_eq_true hm]
    repeat tb_start
    exact k
end
end LW

namespace LW
open PySem PySem.Spec PyProof.Rows L2 WK PM
abbrev s_Floor_work : Stmt := inClass (topS 35) 9
theorem sc_Floor_work : FnScope ["self", "number", "piece", "machine", "minutes"] ["self", "number"] (defScope s_Floor_work) := ⟨rfl, rfl, rfl, by decide +kernel, rfl, by decide +kernel, by decide +kernel⟩
abbrev s_Floor_test : Stmt := inClass (topS 35) 10
theorem sc_Floor_test : FnScope ["self", "number", "good", "piece"] ["self", "number", "good"] (defScope s_Floor_test) := ⟨rfl, rfl, rfl, by decide +kernel, rfl, by decide +kernel, by decide +kernel⟩
abbrev s_Floor_rework : Stmt := inClass (topS 35) 11
theorem sc_Floor_rework : FnScope ["self", "number", "at", "piece"] ["self", "number", "at"] (defScope s_Floor_rework) := ⟨rfl, rfl, rfl, by decide +kernel, rfl, by decide +kernel, by decide +kernel⟩
abbrev s_Floor_scrap : Stmt := inClass (topS 35) 13
theorem sc_Floor_scrap : FnScope ["self", "number", "piece"] ["self", "number"] (defScope s_Floor_scrap) := ⟨rfl, rfl, rfl, by decide +kernel, rfl, by decide +kernel, by decide +kernel⟩
abbrev s_Floor_back : Stmt := inClass (topS 35) 16
theorem sc_Floor_back : FnScope ["self", "number", "piece"] ["self", "number"] (defScope s_Floor_back) := ⟨rfl, rfl, rfl, by decide +kernel, rfl, by decide +kernel, by decide +kernel⟩
abbrev s_Floor_state_of : Stmt := inClass (topS 35) 17
theorem sc_Floor_state_of : FnScope ["self", "number"] ["self", "number"] (defScope s_Floor_state_of) := ⟨rfl, rfl, rfl, by decide +kernel, rfl, by decide +kernel, by decide +kernel⟩
/-- what comes of a deed: the floor stands as told -/
def DoneQ (K : PySem.W.Frag) (CP CF CL CI : Addr) (B H : Hp) (A : AFl) (st' : Fl) (Q : Hp → Prop) : Prop := ∀ A' B' H', Ex B B' → Ok ⟨B, H, (FL CF CL CI A).map (·.1)⟩ B' (FL CF CL CI A') H' → FB K CP B' A' → A'.st = st' → A'.f = A.f → Q H'
structure FS (K : PySem.W.Frag) (CP CF CL CI : Addr) (B H : Hp) (A : AFl) : Prop where
  ok : Ok ⟨B, H, (FL CF CL CI A).map (·.1)⟩ B (FL CF CL CI A) H
  fb : FB K CP B A
  few : A.book.length < 10000
def spWork (K : PySem.W.Frag) (CP CF CL CI : Addr) : Sp := fun vs H Q _ => ∃ (B : Hp) (A : AFl) (k : Nat) (P : APc) (r : PRow) (j mc : Nat) (mi rate : Int), vs = [.ref A.f, .int (k : Int)] ∧ FS K CP CF CL CI B H A ∧ A.pcs[k]? = some P ∧ P.s.state = "making" ∧ rowOf A.rs P.s.part = some r ∧ P.s.at_ = (j : Int) ∧ r.steps[j]? = some ((mc : Int), mi) ∧ A.rates[mc]? = some rate ∧
  DoneQ K CP CF CL CI B H A (A.st.work k P.s (mi * rate) r.steps.length) (Q (.int mi))
def spTest (K : PySem.W.Frag) (CP CF CL CI : Addr) : Sp := fun vs H Q _ => ∃ (B : Hp) (A : AFl) (k : Nat) (P : APc) (g : Bool), vs = [.ref A.f, .int (k : Int), .bl g] ∧ FS K CP CF CL CI B H A ∧ A.pcs[k]? = some P ∧ (P.s.state = "made" ∨ P.s.state = "stock") ∧
  DoneQ K CP CF CL CI B H A (A.st.put k { P.s with state := if g = true then "stock" else "bad" } (.test k g)) (Q .non)
def spRework (K : PySem.W.Frag) (CP CF CL CI : Addr) : Sp := fun vs H Q _ => ∃ (B : Hp) (A : AFl) (k : Nat) (P : APc) (r : PRow) (a : Int), vs = [.ref A.f, .int (k : Int), .int a] ∧ FS K CP CF CL CI B H A ∧ A.pcs[k]? = some P ∧ P.s.state = "bad" ∧ rowOf A.rs P.s.part = some r ∧ 0 ≤ a ∧ a < r.steps.length ∧
  DoneQ K CP CF CL CI B H A (A.st.put k { P.s with state := "making", at_ := a } (.rework k a)) (Q .non)
abbrev house : List Str := ["making", "made", "bad", "stock"]
def spScrap (K : PySem.W.Frag) (CP CF CL CI : Addr) : Sp := fun vs H Q _ => ∃ (B : Hp) (A : AFl) (k : Nat) (P : APc), vs = [.ref A.f, .int (k : Int)] ∧ FS K CP CF CL CI B H A ∧ A.pcs[k]? = some P ∧ P.s.state ∈ house ∧
  DoneQ K CP CF CL CI B H A (A.st.put k { P.s with state := "scrap" } (.scrap k)) (Q .non)
def spBack (K : PySem.W.Frag) (CP CF CL CI : Addr) : Sp := fun vs H Q _ => ∃ (B : Hp) (A : AFl) (k : Nat) (P : APc), vs = [.ref A.f, .int (k : Int)] ∧ FS K CP CF CL CI B H A ∧ A.pcs[k]? = some P ∧ P.s.state = "sold" ∧
  DoneQ K CP CF CL CI B H A (A.st.put k { P.s with state := "made", client := none } (.back k)) (Q .non)
abbrev allStates : List Str := ["making", "made", "bad", "stock", "within", "sold", "scrap", "stripped"]
/-- a look at a floor -/
def LookQ (K : PySem.W.Frag) (CF CL CI : Addr) (B H : Hp) (A : AFl) (Q : Hp → Prop) : Prop := ∀ B' H', Ex B B' → Ok ⟨B, H, (FL CF CL CI A).map (·.1)⟩ B' (FL CF CL CI A) H' → Q H'
def spStateOf (K : PySem.W.Frag) (CP CF CL CI : Addr) : Sp := fun vs H Q _ => ∃ (B : Hp) (A : AFl) (k : Nat) (P : APc), vs = [.ref A.f, .int (k : Int)] ∧ Ok ⟨B, H, (FL CF CL CI A).map (·.1)⟩ B (FL CF CL CI A) H ∧ A.pcs.length ≤ 10000 ∧ A.pcs[k]? = some P ∧ P.s.state ∈ allStates ∧ LookQ K CF CL CI B H A (Q (.str P.s.state))
theorem st_put {A : AFl} {k : Nat} {P' : APc} {nv : List V} {d : Deed} {p : Pc} (h : P'.s = p) : AFl.st { A with pcs := A.pcs.set k P', nv := nv, book := A.book ++ [d] } = A.st.put k p d := by
  subst h
  unfold AFl.st Fl.put
  dsimp only
  rw [List.map_set]
theorem fb_put {K : PySem.W.Frag} {CP : Addr} {B B' : Hp} {A A' : AFl} {d : Deed} {v : V} (fb : FB K CP B A) (e : Ex B B') (hv : Dp K B' v (encDeed d)) (h1 : A'.bk = A.bk) (h2 : A'.rt = A.rt) (h3 : A'.rs = A.rs) (h4 : A'.rates = A.rates) (h5 : A'.nv = A.nv ++ [v]) (h6 : A'.book = A.book ++ [d]) (h7 : A'.lots.length + A'.pcs.length ≤ A.lots.length + A.pcs.length + 1) : FB K CP B' A' := by
  have fb' := fb.up e
  refine ⟨by rw [h1, h3]; exact fb'.book, by rw [h2, h4]; exact fb'.rates, ?_, by rw [h3]; exact fb.good, by rw [h4]; exact fb.six, ?_⟩
  · rw [h5, h6, List.map_append]
    exact fb'.notes.append (.cons hv .nil)
  · have := fb.few
    rw [h6, List.length_append, List.length_singleton]
    omega
theorem fb_set {K : PySem.W.Frag} {CP : Addr} {B B' : Hp} {A A' : AFl} {d : Deed} {v : V} (fb : FB K CP B A) (e : Ex B B') (hv : Dp K B' v (encDeed d)) (h1 : A'.bk = A.bk) (h2 : A'.rt = A.rt) (h3 : A'.rs = A.rs) (h4 : A'.rates = A.rates) (h5 : A'.nv = A.nv ++ [v]) (h6 : A'.book = A.book ++ [d]) (h7 : A'.lots.length = A.lots.length) (h8 : A'.pcs.length = A.pcs.length) : FB K CP B' A' :=
  fb_put fb e hv h1 h2 h3 h4 h5 h6 (by omega)
theorem nv_len {K : PySem.W.Frag} {CP : Addr} {B : Hp} {A : AFl} (fb : FB K CP B A) : A.nv.length = A.book.length := by
  have := fb.notes.length
  rwa [List.length_map] at this
theorem steps_good {rs : List PRow} (G : GoodBook rs) {z : Str} {r : PRow} (h : rowOf rs z = some r) : r.steps.length ≤ 5 ∧ ∀ x ∈ r.steps, (0 ≤ x.1 ∧ x.1 < 6) ∧ 1 ≤ x.2 ∧ x.2 ≤ 99 := by
  obtain ⟨i, hi⟩ := List.getElem?_of_mem (rowOf_mem h).1
  have R := G.row i r hi
  exact ⟨R.few, R.steps⟩
section
variable {P : Program} {w : World} {K : PySem.W.Frag} {mg : Str → Option Value} {base : Heap}
theorem ok_work {f CP CF CL CI : Addr} {fd : FuncData} (F : Fun K "work" "Floor.work" s_Floor_work f fd) (G_piece : MtG P w K mg base 1 CF "piece" ["self", "number", "states"] (spPiece K CF CI)) (G_steps_of : MtG P w K mg base 1 CP "steps_of" ["self", "name"] (spStepsOf K CP)) (fk : FlK K CP CF CL CI)
    (n_len : mg "len" = none) (c_MAKING : GlS mg "MAKING" "making") (c_MADE : GlS mg "MADE" "made") : FnOk P w K mg base CX0 2 f fd ["self", "number"] (spWork K CP CF CL CI) := by
  obtain ⟨cP, cF, cL, cI, a1, a2, b1, b2, b3, b4, b5, b6, b7, c1, c2, c3, d1, d2, d3, d4, d5, d6, d7, d8⟩ := fk
  refine F.ok sc_Floor_work (fun vs H Q E h => ?_) (fun cdv A outer s H vs Q E hr h => ?_)
  · obtain ⟨B, A, k, P, r, j, mc, mi, rate, rfl, _⟩ := h
    rfl
  · obtain ⟨B, A, k, Pc, r, j, mc, mi, rate, rfl, ⟨S, fb, hfew⟩, hP, hst, hrow, hat, hstep, hrate, kk⟩ := h
    have hfew2 := fb.few
    have hnv := nv_len fb
    obtain ⟨sg1, sg2⟩ := steps_good fb.good hrow
    obtain ⟨_, m1, m2⟩ := sg2 _ (List.mem_of_getElem? hstep)
    have S0 := S.nil1
    have bk := fb.book
    obtain ⟨bdx, ba, bl, rkv, lkv, hb1, hb2, hb3, RK, LK⟩ := id bk
    refine with_al (P := P) (w := w) (K := K) hr (fun al => ?_)
    refine ⟨_, (pss_cons (ps_asg (pe_mth G_piece (hr.mono (by first | decide | omega)) (pv 0) (pa_cons (pv 1) (pa_cons (pe_tup (pa_cons (pe_gs c_MAKING rfl) pa_nil)) pa_nil))) (pg_name (i := 2) sc_Floor_work.nd rfl (by first | exact Or.inl rfl | exact Or.inr rfl))) (pss_cons (ps_asg (pe_ix (ixU al) (pe_mth G_steps_of (hr.mono (by first | decide | omega)) (pe_fldU K (pv 0) rfl) (pa_cons (pe_fldU K (pv 2) rfl) pa_nil)) (pe_fldU K (pv 2) rfl) (fun _ _ => rfl)) (pg_tupU (n := 2) K (pgs_cons (pg_name (i := 3) sc_Floor_work.nd rfl (by first | exact Or.inl rfl | exact Or.inr rfl)) (pgs_cons (pg_name (i := 4) sc_Floor_work.nd rfl (by first | exact Or.inl rfl | exact Or.inr rfl)) pgs_nil)))) (pss_cons (ps_augK K (pv 2) pe_int in_add) (pss_cons (ps_augK K (pv 2) (pe_op (opU al) (pv 4) (pe_ix (ixU al) (pe_fldU K (pv 0) rfl) (pv 3) (fun _ _ => rfl))) in_add) (pss_cons (ps_augK K (pv 0) (pe_op (opU al) (pv 4) (pe_ix (ixU al) (pe_fldU K (pv 0) rfl) (pv 3) (fun _ _ => rfl))) in_add) (pss_cons (ps_if (pt_cmpR (opU al) (pe_fldU K (pv 2) rfl) (pe_callB (callU al) (by rfl) n_len b_len (pa_cons (pe_mth G_steps_of (hr.mono (by first | decide | omega)) (pe_fldU K (pv 0) rfl) (pa_cons (pe_fldU K (pv 2) rfl) pa_nil)) pa_nil)) (nomark _)) (pss_one (ps_fldK K (pv 2) (pe_gs c_MADE rfl) rfl)) pss_nil) (pss_cons (ps_expr (pe_bmU K PySem.F.plainAttrs_list PySem.F.slot_list_append PySem.F.type_list_append (metU al) (pe_fldU K (pv 0) rfl) (pa_cons (pe_tup (pa_cons pe_str (pa_cons (pv 1) pa_nil))) pa_nil))) (pss_one (ps_ret (pv 4)))))))))), ?_⟩
    repeat tb_start
    refine new_tup S0 (by show 1 ≤ sizeLine; decide) fun t1 B1 H1 e1 ht1 S1 => ?_
    refine ⟨A, k, Pc, t1, ["making"], rfl, by kts_caught, by kts_caught, hP, by kts_caught, S1.tqStay ht1, by rw [hst]; decide, by omega, ?_⟩
    repeat tb_start
    refine ⟨B1, A.bk, A.rs, r, Pc.s.part, rfl, S1.ex, bk.up e1, hrow, fun v hv => ?_⟩
    repeat tb_start
    rw [hat]
    refine v_ixDT (j := j) S1 hv rfl (by rw [List.getElem?_map, hstep]; rfl) fun u hu => ?_
    refine r_gtupII S1 hu ?_
    repeat tb_start
    let P1 : APc := { Pc with s := { Pc.s with at_ := Pc.s.at_ + 1 } }
    have hk : k < A.pcs.length := (List.getElem?_eq_some_iff.mp hP).1
    refine afP S1 hP P1 ⟨rfl, rfl, rfl, rfl, rfl⟩ rfl fun H2 S2 => ?_
    have hP1 : ({ A with pcs := A.pcs.set k P1 } : AFl).pcs[k]? = some P1 := List.getElem?_set_self hk
    repeat tb_start
    refine v_ixDT (j := mc) S2 (fb.rates.up e1) rfl (by rw [List.getElem?_map, hrate]; rfl) fun u2 hu2 => ?_
    obtain rfl := hu2.int_inv
    repeat tb_start
    let P2 : APc := { P1 with s := { P1.s with cost := Pc.s.cost + mi * rate, own := Pc.s.own + mi * rate } }
    refine afP (P := P1) S2 hP1 P2 ⟨rfl, rfl, rfl, rfl, rfl⟩ rfl fun H3 S3 => ?_
    rw [List.set_set] at S3
    have hP2 : ({ A with pcs := A.pcs.set k P2 } : AFl).pcs[k]? = some P2 := List.getElem?_set_self hk
    repeat tb_start
    refine v_ixDT (j := mc) S3 (fb.rates.up e1) rfl (by rw [List.getElem?_map, hrate]; rfl) fun u3 hu3 => ?_
    obtain rfl := hu3.int_inv
    repeat tb_start
    refine afSpent (A := { A with pcs := A.pcs.set k P2 }) S3 fun H4 S4 => ?_
    have hP3 : ({ A with pcs := A.pcs.set k P2, spent := A.spent + mi * rate } : AFl).pcs[k]? = some P2 := hP2
    repeat tb_start
    refine ⟨B1, A.bk, A.rs, r, Pc.s.part, rfl, S4.ex, bk.up e1, hrow, fun v5 hv5 => ?_⟩
    repeat tb_start
    rw [List.length_map]
    refine ifd (fun hh => ?_) (fun hh => ?_)
    · repeat tb_start
      let P5 : APc := { P2 with s := { P2.s with state := "made" } }
      refine sfdP (P := P2) S4 hP3 cI d2 P5 ⟨rfl, rfl, rfl, rfl, rfl⟩ rfl fun H5 S5 => ?_
      dsimp only at S5
      rw [List.set_set] at S5
      repeat tb_start
      refine new_tup S5 (by show 2 ≤ sizeLine; decide) fun t B6 H6 e6 ht S6 => ?_
      repeat tb_start
      refine v_note (A := { A with pcs := A.pcs.set k P5, spent := A.spent + mi * rate }) (.work k) S6 (by rw [sizeLine_eq]; show A.nv.length < _; omega) fun H7 S7 => ?_
      repeat tb_start
      refine kk _ B6 H7 (e1.trans e6) S7.nil2 (fb_set fb (e1.trans e6) (Dp.ofTup (ds := [.str "work", .int k]) ht (.cons (.str _) (.cons (.int _) .nil))) rfl rfl rfl rfl rfl rfl rfl List.length_set) ?_ rfl
      unfold AFl.st Fl.work
      dsimp only
      rw [List.map_set]
      unfold PM.Pc.work
      rw [if_pos hh]
    · repeat tb_start
      refine new_tup S4 (by show 2 ≤ sizeLine; decide) fun t B6 H6 e6 ht S6 => ?_
      repeat tb_start
      refine v_note (A := { A with pcs := A.pcs.set k P2, spent := A.spent + mi * rate }) (.work k) S6 (by rw [sizeLine_eq]; show A.nv.length < _; omega) fun H7 S7 => ?_
      repeat tb_start
      refine kk _ B6 H7 (e1.trans e6) S7.nil2 (fb_set fb (e1.trans e6) (Dp.ofTup (ds := [.str "work", .int k]) ht (.cons (.str _) (.cons (.int _) .nil))) rfl rfl rfl rfl rfl rfl rfl List.length_set) ?_ rfl
      unfold AFl.st Fl.work
      dsimp only
      rw [List.map_set]
      unfold PM.Pc.work
      rw [if_neg hh]
theorem ok_test {f CP CF CL CI : Addr} {fd : FuncData} (F : Fun K "test" "Floor.test" s_Floor_test f fd) (G_piece : MtG P w K mg base 1 CF "piece" ["self", "number", "states"] (spPiece K CF CI)) (fk : FlK K CP CF CL CI)
    (c_MADE : GlS mg "MADE" "made") (c_STOCK : GlS mg "STOCK" "stock") (c_BAD : GlS mg "BAD" "bad") : FnOk P w K mg base CX0 2 f fd ["self", "number", "good"] (spTest K CP CF CL CI) := by
  obtain ⟨cP, cF, cL, cI, a1, a2, b1, b2, b3, b4, b5, b6, b7, c1, c2, c3, d1, d2, d3, d4, d5, d6, d7, d8⟩ := fk
  refine F.ok sc_Floor_test (fun vs H Q E h => ?_) (fun cdv A outer s H vs Q E hr h => ?_)
  · obtain ⟨B, A, k, Pc, g, rfl, _⟩ := h
    rfl
  · obtain ⟨B, A, k, Pc, g, rfl, ⟨S, fb, hfew⟩, hP, hst, kk⟩ := h
    have hfew2 := fb.few
    have hnv := nv_len fb
    have S0 := S.nil1
    have hk := (List.getElem?_eq_some_iff.mp hP).1
    refine with_al (P := P) (w := w) (K := K) hr (fun al => ?_)
    refine ⟨_, (pss_cons (ps_asg (pe_mth G_piece (hr.mono (by first | decide | omega)) (pv 0) (pa_cons (pv 1) (pa_cons (pe_tup (pa_cons (pe_gs c_MADE rfl) (pa_cons (pe_gs c_STOCK rfl) pa_nil))) pa_nil))) (pg_name (i := 3) sc_Floor_test.nd rfl (by first | exact Or.inl rfl | exact Or.inr rfl))) (pss_cons (ps_fldK K (pv 3) (pe_ifExp (pt_val (pv 2)) (pe_gs c_STOCK rfl) (pe_gs c_BAD rfl)) rfl) (pss_one (ps_expr (pe_bmU K PySem.F.plainAttrs_list PySem.F.slot_list_append PySem.F.type_list_append (metU al) (pe_fldU K (pv 0) rfl) (pa_cons (pe_tup (pa_cons pe_str (pa_cons (pv 1) (pa_cons (pv 2) pa_nil)))) pa_nil)))))), ?_⟩
    repeat tb_start
    refine new_tup S0 (by show 2 ≤ sizeLine; decide) fun t1 B1 H1 e1 ht1 S1 => ?_
    refine ⟨A, k, Pc, t1, ["made", "stock"], rfl, by kts_caught, by kts_caught, hP, by kts_caught, S1.tqStay ht1, (by rcases hst with h | h <;> rw [h] <;> decide), by omega, ?_⟩
    repeat tb_start
    have key : ∀ z : Str, z = (if g = true then ("stock" : Str) else "bad") → ∀ (D : Ends) (σ : L2.St), (∀ H', Ok ⟨B, H, (FL CF CL CI A).map (·.1)⟩ B1 (FL CF CL CI { A with pcs := A.pcs.set k { Pc with s := { Pc.s with state := if g = true then "stock" else "bad" } } } ++ []) H' → D.nx σ H') → SFdQ K "state" (.str z) D σ (.ref Pc.a) H1 := fun z hz D σ h =>
      sfdP S1 hP cI d2 { Pc with s := { Pc.s with state := if g = true then "stock" else "bad" } } ⟨rfl, rfl, rfl, rfl, rfl⟩ (by rw [hz]; rfl) h
    refine ifb (fun hg => ?_) (fun hg => ?_)
    all_goals
      repeat tb_start
      refine key _ (by rw [hg]; rfl) _ _ fun H2 S2 => ?_
      repeat tb_start
      refine new_tup S2 (by show 3 ≤ sizeLine; decide) fun t B6 H6 e6 ht S6 => ?_
      repeat tb_start
      refine v_note (A := { A with pcs := A.pcs.set k { Pc with s := { Pc.s with state := if g = true then "stock" else "bad" } } }) (.test k g) S6 (by rw [sizeLine_eq]; show A.nv.length < _; omega) fun H7 S7 => ?_
      repeat tb_start
      refine kk _ B6 H7 (e1.trans e6) S7.nil2 (fb_set fb (e1.trans e6) (Dp.ofTup (ds := [.str "test", .int k, .bool g]) ht (.cons (.str _) (.cons (.int _) (.cons (.bl _) (.nil))))) rfl rfl rfl rfl rfl rfl rfl List.length_set) (st_put (A := A) (P' := { Pc with s := { Pc.s with state := if g = true then "stock" else "bad" } }) rfl) rfl
theorem ok_rework {f CP CF CL CI : Addr} {fd : FuncData} (F : Fun K "rework" "Floor.rework" s_Floor_rework f fd) (G_piece : MtG P w K mg base 1 CF "piece" ["self", "number", "states"] (spPiece K CF CI)) (G_need_many : FnG P w K mg base 1 "need_many" ["number", "low", "high"] spNeedMany) (G_steps_of : MtG P w K mg base 1 CP "steps_of" ["self", "name"] (spStepsOf K CP)) (fk : FlK K CP CF CL CI)
    (n_len : mg "len" = none) (c_MAKING : GlS mg "MAKING" "making") (c_BAD : GlS mg "BAD" "bad") : FnOk P w K mg base CX0 2 f fd ["self", "number", "at"] (spRework K CP CF CL CI) := by
  obtain ⟨cP, cF, cL, cI, a1, a2, b1, b2, b3, b4, b5, b6, b7, c1, c2, c3, d1, d2, d3, d4, d5, d6, d7, d8⟩ := fk
  refine F.ok sc_Floor_rework (fun vs H Q E h => ?_) (fun cdv A outer s H vs Q E hr h => ?_)
  · obtain ⟨B, A, k, Pc, r, a, rfl, _⟩ := h
    rfl
  · obtain ⟨B, A, k, Pc, r, a, rfl, ⟨S, fb, hfew⟩, hP, hst, hrow, ha0, ha1, kk⟩ := h
    have hfew2 := fb.few
    have hnv := nv_len fb
    have S0 := S.nil1
    have hk := (List.getElem?_eq_some_iff.mp hP).1
    refine with_al (P := P) (w := w) (K := K) hr (fun al => ?_)
    refine ⟨_, (pss_cons (ps_asg (pe_mth G_piece (hr.mono (by first | decide | omega)) (pv 0) (pa_cons (pv 1) (pa_cons (pe_tup (pa_cons (pe_gs c_BAD rfl) pa_nil)) pa_nil))) (pg_name (i := 3) sc_Floor_rework.nd rfl (by first | exact Or.inl rfl | exact Or.inr rfl))) (pss_cons (ps_expr (pe_fn G_need_many (hr.mono (by first | decide | omega)) rfl (pa_cons (pv 2) (pa_cons pe_int (pa_cons (pe_op (opU al) (pe_callB (callU al) (by rfl) n_len b_len (pa_cons (pe_mth G_steps_of (hr.mono (by first | decide | omega)) (pe_fldU K (pv 0) rfl) (pa_cons (pe_fldU K (pv 3) rfl) pa_nil)) pa_nil)) pe_int) pa_nil))))) (pss_cons (ps_fldK K (pv 3) (pe_gs c_MAKING rfl) rfl) (pss_cons (ps_fldK K (pv 3) (pv 2) rfl) (pss_one (ps_expr (pe_bmU K PySem.F.plainAttrs_list PySem.F.slot_list_append PySem.F.type_list_append (metU al) (pe_fldU K (pv 0) rfl) (pa_cons (pe_tup (pa_cons pe_str (pa_cons (pv 1) (pa_cons (pv 2) pa_nil)))) pa_nil)))))))), ?_⟩
    repeat tb_start
    refine new_tup S0 (by show 1 ≤ sizeLine; decide) fun t1 B1 H1 e1 ht1 S1 => ?_
    refine ⟨A, k, Pc, t1, ["bad"], rfl, by kts_caught, by kts_caught, hP, by kts_caught, S1.tqStay ht1, (by rw [hst]; decide), by omega, ?_⟩
    repeat tb_start
    have bk := fb.book
    obtain ⟨bdx, ba, bl, rkv, lkv, hb1, hb2, hb3, RK, LK⟩ := id bk
    repeat tb_start
    refine ⟨B1, A.bk, A.rs, r, Pc.s.part, rfl, S1.ex, bk.up e1, hrow, fun v hv => ?_⟩
    repeat tb_start
    refine ⟨a, 0, _, rfl, ha0, by rw [List.length_map]; omega, ?_⟩
    repeat tb_start
    let P1 : APc := { Pc with s := { Pc.s with state := "making" } }
    refine sfdP S1 hP cI d2 P1 ⟨rfl, rfl, rfl, rfl, rfl⟩ rfl fun H2 S2 => ?_
    have hP1 : ({ A with pcs := A.pcs.set k P1 } : AFl).pcs[k]? = some P1 := List.getElem?_set_self hk
    repeat tb_start
    let P2 : APc := { P1 with s := { P1.s with at_ := a } }
    refine sfdP (P := P1) S2 hP1 cI d3 P2 ⟨rfl, rfl, rfl, rfl, rfl⟩ rfl fun H3 S3 => ?_
    rw [List.set_set] at S3
    repeat tb_start
    refine new_tup S3 (by show 3 ≤ sizeLine; decide) fun t B6 H6 e6 ht S6 => ?_
    repeat tb_start
    refine v_note (A := { A with pcs := A.pcs.set k P2 }) (.rework k a) S6 (by rw [sizeLine_eq]; show A.nv.length < _; omega) fun H7 S7 => ?_
    repeat tb_start
    refine kk _ B6 H7 (e1.trans e6) S7.nil2 (fb_set fb (e1.trans e6) (Dp.ofTup (ds := [.str "rework", .int k, .int a]) ht (.cons (.str _) (.cons (.int _) (.cons (.int _) (.nil))))) rfl rfl rfl rfl rfl rfl rfl List.length_set) (st_put (A := A) (P' := P2) rfl) rfl
theorem ok_scrap {f CP CF CL CI TH : Addr} {fd : FuncData} (F : Fun K "scrap" "Floor.scrap" s_Floor_scrap f fd) (G_piece : MtG P w K mg base 1 CF "piece" ["self", "number", "states"] (spPiece K CF CI)) (fk : FlK K CP CF CL CI)
    (c_HOUSE : GlV mg "HOUSE" (.ref TH)) (hTH : ∀ H, SqT K H TH (house.map V.str)) (c_SCRAP : GlS mg "SCRAP" "scrap") : FnOk P w K mg base CX0 2 f fd ["self", "number"] (spScrap K CP CF CL CI) := by
  obtain ⟨cP, cF, cL, cI, a1, a2, b1, b2, b3, b4, b5, b6, b7, c1, c2, c3, d1, d2, d3, d4, d5, d6, d7, d8⟩ := fk
  refine F.ok sc_Floor_scrap (fun vs H Q E h => ?_) (fun cdv A outer s H vs Q E hr h => ?_)
  · obtain ⟨B, A, k, Pc, rfl, _⟩ := h
    rfl
  · obtain ⟨B, A, k, Pc, rfl, ⟨S, fb, hfew⟩, hP, hst, kk⟩ := h
    have hfew2 := fb.few
    have hnv := nv_len fb
    have S0 := S.nil1
    have hk := (List.getElem?_eq_some_iff.mp hP).1
    refine with_al (P := P) (w := w) (K := K) hr (fun al => ?_)
    refine ⟨_, (pss_cons (ps_asg (pe_mth G_piece (hr.mono (by first | decide | omega)) (pv 0) (pa_cons (pv 1) (pa_cons (pe_gv c_HOUSE rfl) pa_nil))) (pg_name (i := 2) sc_Floor_scrap.nd rfl (by first | exact Or.inl rfl | exact Or.inr rfl))) (pss_cons (ps_fldK K (pv 2) (pe_gs c_SCRAP rfl) rfl) (pss_one (ps_expr (pe_bmU K PySem.F.plainAttrs_list PySem.F.slot_list_append PySem.F.type_list_append (metU al) (pe_fldU K (pv 0) rfl) (pa_cons (pe_tup (pa_cons pe_str (pa_cons (pv 1) pa_nil))) pa_nil)))))), ?_⟩
    repeat tb_start
    refine ⟨A, k, Pc, TH, house, rfl, by kts_caught, by kts_caught, hP, by kts_caught, hTH _, hst, by omega, ?_⟩
    repeat tb_start
    have e1 : Ex B B := Ex.refl B
    let P1 : APc := { Pc with s := { Pc.s with state := "scrap" } }
    refine sfdP S0 hP cI d2 P1 ⟨rfl, rfl, rfl, rfl, rfl⟩ rfl fun H2 S2 => ?_
    repeat tb_start
    refine new_tup S2 (by show 2 ≤ sizeLine; decide) fun t B6 H6 e6 ht S6 => ?_
    repeat tb_start
    refine v_note (A := { A with pcs := A.pcs.set k P1 }) (.scrap k) S6 (by rw [sizeLine_eq]; show A.nv.length < _; omega) fun H7 S7 => ?_
    repeat tb_start
    refine kk _ B6 H7 (e1.trans e6) S7.nil2 (fb_set fb (e1.trans e6) (Dp.ofTup (ds := [.str "scrap", .int k]) ht (.cons (.str _) (.cons (.int _) (.nil)))) rfl rfl rfl rfl rfl rfl rfl List.length_set) (st_put (A := A) (P' := P1) rfl) rfl
theorem ok_back {f CP CF CL CI : Addr} {fd : FuncData} (F : Fun K "back" "Floor.back" s_Floor_back f fd) (G_piece : MtG P w K mg base 1 CF "piece" ["self", "number", "states"] (spPiece K CF CI)) (fk : FlK K CP CF CL CI)
    (c_SOLD : GlS mg "SOLD" "sold") (c_MADE : GlS mg "MADE" "made") : FnOk P w K mg base CX0 2 f fd ["self", "number"] (spBack K CP CF CL CI) := by
  obtain ⟨cP, cF, cL, cI, a1, a2, b1, b2, b3, b4, b5, b6, b7, c1, c2, c3, d1, d2, d3, d4, d5, d6, d7, d8⟩ := fk
  refine F.ok sc_Floor_back (fun vs H Q E h => ?_) (fun cdv A outer s H vs Q E hr h => ?_)
  · obtain ⟨B, A, k, Pc, rfl, _⟩ := h
    rfl
  · obtain ⟨B, A, k, Pc, rfl, ⟨S, fb, hfew⟩, hP, hst, kk⟩ := h
    have hfew2 := fb.few
    have hnv := nv_len fb
    have S0 := S.nil1
    have hk := (List.getElem?_eq_some_iff.mp hP).1
    refine with_al (P := P) (w := w) (K := K) hr (fun al => ?_)
    refine ⟨_, (pss_cons (ps_asg (pe_mth G_piece (hr.mono (by first | decide | omega)) (pv 0) (pa_cons (pv 1) (pa_cons (pe_tup (pa_cons (pe_gs c_SOLD rfl) pa_nil)) pa_nil))) (pg_name (i := 2) sc_Floor_back.nd rfl (by first | exact Or.inl rfl | exact Or.inr rfl))) (pss_cons (ps_fldK K (pv 2) (pe_gs c_MADE rfl) rfl) (pss_cons (ps_fldK K (pv 2) pe_non rfl) (pss_one (ps_expr (pe_bmU K PySem.F.plainAttrs_list PySem.F.slot_list_append PySem.F.type_list_append (metU al) (pe_fldU K (pv 0) rfl) (pa_cons (pe_tup (pa_cons pe_str (pa_cons (pv 1) pa_nil))) pa_nil))))))), ?_⟩
    repeat tb_start
    refine new_tup S0 (by show 1 ≤ sizeLine; decide) fun t1 B1 H1 e1 ht1 S1 => ?_
    refine ⟨A, k, Pc, t1, ["sold"], rfl, by kts_caught, by kts_caught, hP, by kts_caught, S1.tqStay ht1, (by rw [hst]; decide), by omega, ?_⟩
    repeat tb_start
    let P1 : APc := { Pc with s := { Pc.s with state := "made" } }
    refine sfdP S1 hP cI d2 P1 ⟨rfl, rfl, rfl, rfl, rfl⟩ rfl fun H2 S2 => ?_
    have hP1 : ({ A with pcs := A.pcs.set k P1 } : AFl).pcs[k]? = some P1 := List.getElem?_set_self hk
    repeat tb_start
    let P2 : APc := { P1 with s := { P1.s with client := none } }
    refine sfdP (P := P1) S2 hP1 cI d8 P2 ⟨rfl, rfl, rfl, rfl, rfl⟩ rfl fun H3 S3 => ?_
    rw [List.set_set] at S3
    repeat tb_start
    refine new_tup S3 (by show 2 ≤ sizeLine; decide) fun t B6 H6 e6 ht S6 => ?_
    repeat tb_start
    refine v_note (A := { A with pcs := A.pcs.set k P2 }) (.back k) S6 (by rw [sizeLine_eq]; show A.nv.length < _; omega) fun H7 S7 => ?_
    repeat tb_start
    refine kk _ B6 H7 (e1.trans e6) S7.nil2 (fb_set fb (e1.trans e6) (Dp.ofTup (ds := [.str "back", .int k]) ht (.cons (.str _) (.cons (.int _) (.nil)))) rfl rfl rfl rfl rfl rfl rfl List.length_set) (st_put (A := A) (P' := P2) rfl) rfl
theorem ok_state_of {f CP CF CL CI TH : Addr} {fd : FuncData} (F : Fun K "state_of" "Floor.state_of" s_Floor_state_of f fd) (G_piece : MtG P w K mg base 1 CF "piece" ["self", "number", "states"] (spPiece K CF CI)) (fk : FlK K CP CF CL CI)
    (c_HOUSE : GlV mg "HOUSE" (.ref TH)) (hTH : ∀ H, SqT K H TH (house.map V.str)) (c_WITHIN : GlS mg "WITHIN" "within") (c_SOLD : GlS mg "SOLD" "sold") (c_SCRAP : GlS mg "SCRAP" "scrap") (c_STRIPPED : GlS mg "STRIPPED" "stripped") : FnOk P w K mg base CX0 2 f fd ["self", "number"] (spStateOf K CP CF CL CI) := by
  obtain ⟨cP, cF, cL, cI, a1, a2, b1, b2, b3, b4, b5, b6, b7, c1, c2, c3, d1, d2, d3, d4, d5, d6, d7, d8⟩ := fk
  refine F.ok sc_Floor_state_of (fun vs H Q E h => ?_) (fun cdv A outer s H vs Q E hr h => ?_)
  · obtain ⟨B, A, k, Pc, rfl, _⟩ := h
    rfl
  · obtain ⟨B, A, k, Pc, rfl, S, hfew, hP, hst, kk⟩ := h
    have S0 := S.nil1
    have hk := (List.getElem?_eq_some_iff.mp hP).1
    refine with_al (P := P) (w := w) (K := K) hr (fun al => ?_)
    refine ⟨_, (pss_cons (ps_expr (pe_mth G_piece (hr.mono (by first | decide | omega)) (pv 0) (pa_cons (pv 1) (pa_cons (pe_op (opU al) (pe_gv c_HOUSE rfl) (pe_tup (pa_cons (pe_gs c_WITHIN rfl) (pa_cons (pe_gs c_SOLD rfl) (pa_cons (pe_gs c_SCRAP rfl) (pa_cons (pe_gs c_STRIPPED rfl) pa_nil)))))) pa_nil)))) (pss_one (ps_ret (pe_fldU K (pe_ix (ixU al) (pe_fldU K (pv 0) rfl) (pv 1) (fun _ _ => rfl)) rfl)))), ?_⟩
    repeat tb_start
    refine new_tup S0 (by show 4 ≤ sizeLine; decide) fun t1 B1 H1 e1 ht1 S1 => ?_
    repeat tb_start
    refine v_catT S1 (hTH _) (S1.tqStay ht1) (by decide) (by decide) (by show 8 ≤ sizeLine; decide) fun t2 B2 H2 e2 ht2 S2 => ?_
    refine ⟨A, k, Pc, t2, allStates, rfl, by kts_caught, by kts_caught, hP, by kts_caught, S2.tqStay ht2, hst, by omega, ?_⟩
    repeat tb_start
    refine v_ixL (.inl (.inl (show H2 A.pa = _ by kts_caught))) (atI_nat (by rw [List.getElem?_map, hP]; rfl)) ?_
    repeat tb_start
    exact kk B2 H2 (e1.trans e2) S2.nil2
end
end LW

namespace LW
open PySem PySem.Spec PyProof.Rows L2 WK PM
abbrev s_Floor_lots_for : Stmt := inClass (topS 35) 4
theorem sc_Floor_lots_for : FnScope ["self", "part", "many", "found", "number", "lot"] ["self", "part", "many"] (defScope s_Floor_lots_for) := ⟨rfl, rfl, rfl, by decide +kernel, rfl, by decide +kernel, by decide +kernel⟩
abbrev s_Floor_pieces_for : Stmt := inClass (topS 35) 5
theorem sc_Floor_pieces_for : FnScope ["self", "part", "many", "some", "number", "piece"] ["self", "part", "many"] (defScope s_Floor_pieces_for) := ⟨rfl, rfl, rfl, by decide +kernel, rfl, by decide +kernel, by decide +kernel⟩
abbrev s_Floor_hold : Stmt := inClass (topS 35) 8
theorem sc_Floor_hold : FnScope ["self", "number", "piece", "other", "inner"] ["self", "number", "piece", "other"] (defScope s_Floor_hold) := ⟨rfl, rfl, rfl, by decide +kernel, rfl, by decide +kernel, by decide +kernel⟩
def kvN (xs : List (Nat × Int)) : List (Key × V) := xs.map fun x => (.inl (x.1 : Int), .int x.2)
def spLotsFor (K : PySem.W.Frag) (CF CL CI : Addr) : Sp := fun vs H Q _ => ∃ (B : Hp) (A : AFl) (z : Str) (m : Int), vs = [.ref A.f, .str z, .int m] ∧ Ok ⟨B, H, (FL CF CL CI A).map (·.1)⟩ B (FL CF CL CI A) H ∧ A.lots.length ≤ 10000 ∧ (takeLots (A.lots.map (·.s)) z m).2 = 0 ∧
  ∀ D B' H', Ex B B' → Ok ⟨B, H, (FL CF CL CI A).map (·.1)⟩ B' ((D, .dK (kvN (takeLots (A.lots.map (·.s)) z m).1)) :: FL CF CL CI A) H' → Q (.ref D) H'
def spPiecesFor (K : PySem.W.Frag) (CF CL CI : Addr) : Sp := fun vs H Q _ => ∃ (B : Hp) (A : AFl) (z : Str) (m : Nat), vs = [.ref A.f, .str z, .int (m : Int)] ∧ Ok ⟨B, H, (FL CF CL CI A).map (·.1)⟩ B (FL CF CL CI A) H ∧ A.pcs.length ≤ 10000 ∧ m ≤ (stockOf (A.pcs.map (·.s)) z).length ∧
  ∀ v B' H', Ex B B' → Ok ⟨B, H, (FL CF CL CI A).map (·.1)⟩ B' (FL CF CL CI A) H' → Dp K B' v (.list (((stockOf (A.pcs.map (·.s)) z).take m).map fun (k : Nat) => PyData.int (k : Int))) → Q v H'
/-- a floor with another state, the same else -/
def Grown (A A' : AFl) : Prop := A'.f = A.f ∧ A'.bk = A.bk ∧ A'.rt = A.rt ∧ A'.nv = A.nv ∧ A'.rs = A.rs ∧ A'.rates = A.rates ∧ A'.book = A.book ∧ A'.lots.length = A.lots.length ∧ A'.pcs.map (·.a) = A.pcs.map (·.a) ∧ A'.spent = A.spent ∧ A'.lost = A.lost
theorem Grown.refl (A : AFl) : Grown A A := ⟨rfl, rfl, rfl, rfl, rfl, rfl, rfl, rfl, rfl, rfl, rfl⟩
theorem Grown.trans {A A1 A2 : AFl} (h : Grown A A1) (g : Grown A1 A2) : Grown A A2 := by
  obtain ⟨h1, h2, h3, h4, h5, h6, h7, h8, h9, h10, h11⟩ := h
  obtain ⟨g1, g2, g3, g4, g5, g6, g7, g8, g9, g10, g11⟩ := g
  exact ⟨g1.trans h1, g2.trans h2, g3.trans h3, g4.trans h4, g5.trans h5, g6.trans h6, g7.trans h7, g8.trans h8, g9.trans h9, g10.trans h10, g11.trans h11⟩
def spHold (CF CL CI : Addr) : Sp := fun vs H Q _ => ∃ (B : Hp) (A : AFl) (k0 k1 : Nat) (P0 P1 : APc), vs = [.ref A.f, .int (k0 : Int), .ref P0.a, .int (k1 : Int)] ∧ Ok ⟨B, H, (FL CF CL CI A).map (·.1)⟩ B (FL CF CL CI A) H ∧ A.pcs[k0]? = some P0 ∧ A.pcs[k1]? = some P1 ∧ k0 ≠ k1 ∧ P0.s.holds.length < 10000 ∧
  ∀ A' B' H', Ex B B' → Ok ⟨B, H, (FL CF CL CI A).map (·.1)⟩ B' (FL CF CL CI A') H' → Grown A A' → A'.st = A.st.give k0 (.pc k1) → Q .non H'
theorem map_a_set {l : List APc} {k : Nat} {P P' : APc} (h : l[k]? = some P) (e : P'.a = P.a) : (l.set k P').map (·.a) = l.map (·.a) := by
  obtain ⟨l1, l2, hl, _, hs⟩ := at_split h
  rw [hs P', hl]
  simp [e]
section
variable {P : Program} {w : World} {K : PySem.W.Frag} {mg : Str → Option Value} {base : Heap}
theorem ok_lots_for {f CP CF CL CI : Addr} {fd : FuncData} (F : Fun K "lots_for" "Floor.lots_for" s_Floor_lots_for f fd) (fk : FlK K CP CF CL CI) (n_enumerate : mg "enumerate" = none) (n_min : mg "min" = none) : FnOk P w K mg base CX0 1 f fd ["self", "part", "many"] (spLotsFor K CF CL CI) := by
  obtain ⟨cP, cF, cL, cI, a1, a2, b1, b2, b3, b4, b5, b6, b7, c1, c2, c3, d1, d2, d3, d4, d5, d6, d7, d8⟩ := fk
  refine F.ok sc_Floor_lots_for (fun vs H Q E h => ?_) (fun cdv A outer s H vs Q E hr h => ?_)
  · obtain ⟨B, A, z, m, rfl, _⟩ := h
    rfl
  · obtain ⟨B, A, z, m, rfl, S, hlen, hz, kk⟩ := h
    have S0 := S.nil1
    refine with_al (P := P) (w := w) (K := K) hr (fun al => ?_)
    refine ⟨_, (pss_cons (ps_asg pe_dnewK (pg_name (i := 3) sc_Floor_lots_for.nd rfl (by first | exact Or.inl rfl | exact Or.inr rfl))) (pss_cons (ps_for PassesOwn.never rfl (pi_enumV (by rfl) n_enumerate (pa_cons (pe_fldU K (pv 0) rfl) pa_nil)) (pg_tupU (n := 2) K (pgs_cons (pg_name (i := 4) sc_Floor_lots_for.nd rfl (by first | exact Or.inl rfl | exact Or.inr rfl)) (pgs_cons (pg_name (i := 5) sc_Floor_lots_for.nd rfl (by first | exact Or.inl rfl | exact Or.inr rfl)) pgs_nil))) (pss_one (ps_if (PW.pt (pw_and (pt_cmpR (opU al) (pe_fldU K (pv 5) rfl) (pv 1) (nomark _)) (pw_and (pt_cmpR (opU al) (pe_fldU K (pv 5) rfl) pe_int (nomark _)) (pw_and1 (pt_cmpR (opU al) (pv 2) pe_int (nomark _)))))) (pss_cons (ps_asg (pe_callB (callU al) (by rfl) n_min b_min (pa_cons (pe_fldU K (pv 5) rfl) (pa_cons (pv 2) pa_nil))) (pg_sub (pv 3) (pv 4) (setU al))) (pss_one (ps_aug (i := 2) sc_Floor_lots_for.nd rfl (by first | exact Or.inl rfl | exact Or.inr rfl) (pe_ix (ixU al) (pv 3) (pv 4) (fun _ _ => rfl)) (ipU al)))) pss_nil))) (pss_one (ps_ret (pe_ifExp (pt_cmpR (opU al) (pv 2) pe_int (nomark _)) (pv 3) pe_non))))), ?_⟩
    repeat tb_start
    refine new_dK S0 fun D H1 S1 => ?_
    repeat tb_start
    refine enuO S1 (.tail _ mFl) ?_
    have fin : ∀ j, ((A.lots.zipIdx.take j).map fun x : ALot × Nat => (x.1.s, x.2)) = (A.lots.map (·.s)).zipIdx.take j := fun j => by
      rw [List.zipIdx_map, ← List.map_take]
      rfl
    refine forDS (src_enumO (fun x : ALot => V.ref x.a) A.lots) S1 (fun i σ B1 L1 => ∃ acc : List (Nat × Int) × Int, acc = ((A.lots.zipIdx.take i).map fun x => (x.1.s, x.2)).foldl (takeStep z) ([], m) ∧ (∃ yy4 yy5, σ = [some (.ref A.f), some (.str z), some (.int acc.2), some (.ref D), yy4, yy5]) ∧ L1 = (D, .dK (kvN acc.1)) :: (FL CF CL CI A ++ [])) (fun i σ B1 L1 _ ⟨acc, _, _, h⟩ => by rw [h]; exact .tail _ mFl) ?_ ?_ ?_
    · exact ⟨([], m), rfl, ⟨_, _, rfl⟩, rfl⟩
    · rintro i y xv σ B1 B2 L1 H2 hget ⟨acc, hacc, ⟨_, _, rfl⟩, rfl⟩ e1 e2 S2 ⟨T, rfl, hT⟩
      obtain ⟨hy1, hy2⟩ := zipIdx_at hget
      obtain ⟨x, xi⟩ := y
      dsimp only at hy1 hy2 hT
      subst hy2
      refine r_gtupB S2 hT rfl ?_
      repeat tb_start
      have hnew : ∀ k ∈ acc.1.map (·.1), k < xi := fun k hk => by
        rw [hacc] at hk
        rcases takeFold_keys z _ _ k hk with h | h
        · cases h
        · rw [List.map_map] at h
          obtain ⟨q, hq, rfl⟩ := List.mem_map.mp h
          obtain ⟨j, hj⟩ := List.getElem?_of_mem hq
          have hjl := (List.getElem?_eq_some_iff.mp hj).1
          rw [List.length_take] at hjl
          rw [List.getElem?_take_of_lt (by omega)] at hj
          have := (zipIdx_at hj).2
          show q.2 < xi
          omega
      have hstep : ((A.lots.zipIdx.take (xi + 1)).map fun x => (x.1.s, x.2)).foldl (takeStep z) ([], m) = takeStep z acc (x.s, xi) := by
        rw [List.take_add_one, hget, List.map_append, List.foldl_append, ← hacc]
        rfl
      have hno : valV (kvN acc.1) (.inl (xi : Int)) = none := valV_none fun hm => by
        obtain ⟨q, hq, e⟩ := List.mem_map.mp hm
        unfold kvN at hq
        obtain ⟨q2, hq2, rfl⟩ := List.mem_map.mp hq
        have h1 := hnew q2.1 (List.mem_map.mpr ⟨q2, hq2, rfl⟩)
        have h2 : (q2.1 : Int) = (xi : Int) := Sum.inl.inj e
        omega
      have hxl : xi < A.lots.length := (List.getElem?_eq_some_iff.mp hy1).1
      have hkl : (kvN acc.1).length < sizeLine := by
        have h1 := takeFold_len z ((A.lots.zipIdx.take xi).map fun x => (x.1.s, x.2)) ([], m)
        rw [← hacc, List.length_map, List.length_take] at h1
        unfold kvN
        rw [List.length_map, sizeLine_eq]
        simp only [List.length_nil] at h1
        omega
      have same : ¬ (x.s.part = z ∧ 0 < x.s.left ∧ 0 < acc.2) → takeStep z acc (x.s, xi) = acc := fun h => if_neg h
      have skip : ∀ (h : ¬ (x.s.part = z ∧ 0 < x.s.left ∧ 0 < acc.2)) (y3 y4 : Option V), NxE ⟨B, H, (FL CF CL CI A).map (·.1)⟩ B (fun σ B1 L1 => ∃ acc : List (Nat × Int) × Int, acc = ((A.lots.zipIdx.take (xi + 1)).map fun x => (x.1.s, x.2)).foldl (takeStep z) ([], m) ∧ (∃ yy4 yy5, σ = [some (.ref A.f), some (.str z), some (.int acc.2), some (.ref D), yy4, yy5]) ∧ L1 = (D, .dK (kvN acc.1)) :: (FL CF CL CI A ++ [])) [some (.ref A.f), some (.str z), some (.int acc.2), some (.ref D), y3, y4] H2 := fun h y3 y4 =>
        NxE.mk' S2 (by nest_room) ⟨acc, by rw [hstep, same h], ⟨_, _, rfl⟩, rfl⟩
      have hx : H2 x.a = some (.ins CL x.dx (ltF x.s)) := S2.mem (.tail _ (mFlot hy1))
      repeat tb_start
      refine ifd (fun h1 => ?_) (fun h1 => ?_)
      · repeat tb_start
        refine ifd (fun h2 => ?_) (fun h2 => ?_)
        · repeat tb_start
          refine ifd (fun h3 => ?_) (fun h3 => ?_)
          · repeat tb_start
            refine v_setKN (k := .inl (xi : Int)) 0 S2 rfl rfl hkl fun H3 S3 => ?_
            rw [putK_new _ hno] at S3
            replace S3 : Ok ⟨B, H, (FL CF CL CI A).map (·.1)⟩ B2 ((D, .dK (kvN acc.1 ++ [(.inl (xi : Int), .int (if acc.2 < x.s.left then acc.2 else x.s.left))])) :: (FL CF CL CI A ++ [])) H3 := S3
            repeat tb_start
            refine v_ixDI (S3.rdMem (.head _)) (v := .int (if acc.2 < x.s.left then acc.2 else x.s.left)) (by rw [valV_snoc _ _ _ _ hno, if_pos rfl]) ?_
            repeat tb_start
            have h4 : x.s.part = z ∧ 0 < x.s.left ∧ 0 < acc.2 := ⟨h1, h2, h3⟩
            refine NxE.mk' S3 (by nest_room) ?_
            refine ⟨takeStep z acc (x.s, xi), by rw [hstep], ?_, ?_⟩
            · unfold takeStep
              rw [if_pos h4]
              exact ⟨_, _, rfl⟩
            · unfold takeStep
              rw [if_pos h4]
              unfold kvN
              rw [List.map_append]
              rfl
          · exact skip (fun h => h3 h.2.2) _ _
        · exact skip (fun h => h2 h.2.1) _ _
      · exact skip (fun h => h1 h.1) _ _
    · rintro σ B1 L1 H2 ⟨acc, hacc, ⟨_, _, rfl⟩, rfl⟩ e1 S2
      have hA : acc = takeLots (A.lots.map (·.s)) z m := by
        rw [hacc, List.length_zipIdx]
        unfold takeLots
        rw [fin, List.take_of_length_le (by rw [List.length_zipIdx, List.length_map]; exact Nat.le_refl _)]
      subst hA
      rw [hz]
      repeat tb_start
      exact kk D B1 H2 e1 (by rw [List.append_nil] at S2; exact S2)
theorem ok_pieces_for {f CP CF CL CI : Addr} {fd : FuncData} (F : Fun K "pieces_for" "Floor.pieces_for" s_Floor_pieces_for f fd) (fk : FlK K CP CF CL CI) (n_enumerate : mg "enumerate" = none) (n_len : mg "len" = none) (c_STOCK : GlS mg "STOCK" "stock") : FnOk P w K mg base CX0 1 f fd ["self", "part", "many"] (spPiecesFor K CF CL CI) := by
  obtain ⟨cP, cF, cL, cI, a1, a2, b1, b2, b3, b4, b5, b6, b7, c1, c2, c3, d1, d2, d3, d4, d5, d6, d7, d8⟩ := fk
  refine F.ok sc_Floor_pieces_for (fun vs H Q E h => ?_) (fun cdv A outer s H vs Q E hr h => ?_)
  · obtain ⟨B, A, z, m, rfl, _⟩ := h
    rfl
  · obtain ⟨B, A, z, m, rfl, S, hlen, hz, kk⟩ := h
    have S0 := S.nil1
    refine with_al (P := P) (w := w) (K := K) hr (fun al => ?_)
    refine ⟨_, (pss_cons (ps_setLc (i := 3) (own := [("number", 4), ("piece", 5)]) al.calm sc_Floor_pieces_for.nd rfl rfl (sw_true rfl rfl rfl (by decide +kernel)) (pi_enumV (by rfl) n_enumerate (pa_cons (pe_fldU K (pv 0) rfl) pa_nil)) (blkOk_by (own := [("number", 4), ("piece", 5)]) (N := ["self", "part", "many", "some", "number", "piece"]) (sc := (defScope s_Floor_pieces_for)) (by decide +kernel)) (fun _ _ _ _ _ => (pg_tupU (n := 2) K (pgs_cons (pg_name (i := 4) sc_Floor_pieces_for.nd rfl (by first | exact Or.inl rfl | exact Or.inr rfl)) (pgs_cons (pg_name (i := 5) sc_Floor_pieces_for.nd rfl (by first | exact Or.inl rfl | exact Or.inr rfl)) pgs_nil)))) (fun _ _ _ _ _ => pts_one (PW.pt (pw_and (pt_cmpR (opU al) (pe_fldU K (pv 5) rfl) (pv 1) (nomark _)) (pw_and1 (pt_cmpR (opU al) (pe_fldU K (pv 5) rfl) (pe_gs c_STOCK rfl) (nomark _)))))) (fun _ _ _ _ _ => (pv 4))) (pss_one (ps_ret (pe_ifExp (pt_cmpR (opU al) (pe_callB (callU al) (by rfl) n_len b_len (pa_cons (pv 3) pa_nil)) (pv 2) (nomark _)) (pe_slice (slU al) (pv 3) po_none (po_some (pv 2))) pe_non)))), ?_⟩
    repeat tb_start
    refine enuO S0 mFp ?_
    refine lcPure K (src_enumO (fun x : APc => V.ref x.a) A.pcs) S0 (fun B1 D acc e => .tail _ mFp) (fun y => decide (y.1.s.part = z) && decide (y.1.s.state = sStock)) (fun y => .int (y.2 : Int)) (by rw [List.length_zipIdx]; omega) ?_ ?_
    · rintro y xv B1 D acc H1 C Cs hy e1 S1 ⟨T, rfl, hT⟩ kC kS
      obtain ⟨i, hi⟩ := List.getElem?_of_mem hy
      obtain ⟨hy1, hy2⟩ := zipIdx_at hi
      obtain ⟨x, xi⟩ := y
      dsimp only at hy1 hy2 hT kC kS ⊢
      have hx : H1 x.a = some (.ins CI x.dx (pcF x)) := S1.mem (.tail _ (mFpc hy1))
      refine r_gtupB S1 hT rfl ?_
      repeat tb_start
      refine ⟨rfl, ?_⟩
      repeat tb_start
      refine ifd (fun h1 => ?_) (fun h1 => ?_)
      · repeat tb_start
        refine ifd (fun h2 => ?_) (fun h2 => ?_)
        · repeat tb_start
          exact kC _ _ _ (by rw [decide_eq_true h1, decide_eq_true h2]; rfl) (Ex.refl _) S1 (.int _)
        · exact kS _ _ (by rw [decide_eq_false h2, Bool.and_false]) (Ex.refl _) S1
      · exact kS _ _ (by rw [decide_eq_false h1, Bool.false_and]) (Ex.refl _) S1
    · intro D acc B1 H1 e1 S1 hacc
      have hso : ((A.pcs.zipIdx.filter fun y => decide (y.1.s.part = z) && decide (y.1.s.state = sStock)).map fun y => PyData.int (y.2 : Int)) = (stockOf (A.pcs.map (·.s)) z).map fun (k : Nat) => PyData.int (k : Int) := by
        unfold stockOf
        rw [List.zipIdx_map, List.filter_map, List.map_map, List.map_map]
        rfl
      rw [hso] at hacc
      obtain ⟨B2, e2, S2, hD⟩ := S1.toData hacc
      repeat tb_start
      refine v_slTo S2 hD fun r B3 H3 e3 S3 h3 => ?_
      rw [← List.map_take] at h3
      exact kk r B3 H3 (by nest_room) S3.nil2 h3
theorem ok_hold {f CP CF CL CI : Addr} {fd : FuncData} (F : Fun K "hold" "Floor.hold" s_Floor_hold f fd) (fk : FlK K CP CF CL CI) (c_WITHIN : GlS mg "WITHIN" "within") : FnOk P w K mg base CX0 1 f fd ["self", "number", "piece", "other"] (spHold CF CL CI) := by
  obtain ⟨cP, cF, cL, cI, a1, a2, b1, b2, b3, b4, b5, b6, b7, c1, c2, c3, d1, d2, d3, d4, d5, d6, d7, d8⟩ := fk
  refine F.ok sc_Floor_hold (fun vs H Q E h => ?_) (fun cdv A outer s H vs Q E hr h => ?_)
  · obtain ⟨B, A, k0, k1, P0, P1, rfl, _⟩ := h
    rfl
  · obtain ⟨B, A, k0, k1, P0, P1, rfl, S, hP0, hP1, hne, hhl, kk⟩ := h
    have S0 := S.nil1
    have hk0 := (List.getElem?_eq_some_iff.mp hP0).1
    have hk1 := (List.getElem?_eq_some_iff.mp hP1).1
    refine with_al (P := P) (w := w) (K := K) hr (fun al => ?_)
    refine ⟨_, (pss_cons (ps_asg (pe_ix (ixU al) (pe_fldU K (pv 0) rfl) (pv 3) (fun _ _ => rfl)) (pg_name (i := 4) sc_Floor_hold.nd rfl (by first | exact Or.inl rfl | exact Or.inr rfl))) (pss_cons (ps_fldK K (pv 4) (pe_gs c_WITHIN rfl) rfl) (pss_cons (ps_fldK K (pv 4) (pv 1) rfl) (pss_cons (ps_expr (pe_bmU K PySem.F.plainAttrs_list PySem.F.slot_list_append PySem.F.type_list_append (metU al) (pe_fldU K (pv 2) rfl) (pa_cons (pv 3) pa_nil))) (pss_one (ps_augK K (pv 2) (pe_fldU K (pv 4) rfl) in_add)))))), ?_⟩
    repeat tb_start
    refine v_ixL (.inl (.inl S0.flP)) (atI_nat (by rw [List.getElem?_map, hP1]; rfl)) ?_
    repeat tb_start
    let Q1 : APc := { P1 with s := { P1.s with state := "within" } }
    refine sfdP S0 hP1 cI d2 Q1 ⟨rfl, rfl, rfl, rfl, rfl⟩ rfl fun H2 S2 => ?_
    have hQ1 : ({ A with pcs := A.pcs.set k1 Q1 } : AFl).pcs[k1]? = some Q1 := List.getElem?_set_self hk1
    repeat tb_start
    let Q2 : APc := { Q1 with s := { Q1.s with above := some k0 } }
    refine sfdP (P := Q1) S2 hQ1 cI d7 Q2 ⟨rfl, rfl, rfl, rfl, rfl⟩ rfl fun H3 S3 => ?_
    dsimp only at S3
    rw [List.set_set] at S3
    have hQ2 : ({ A with pcs := A.pcs.set k1 Q2 } : AFl).pcs[k1]? = some Q2 := List.getElem?_set_self hk1
    have hR : ({ A with pcs := A.pcs.set k1 Q2 } : AFl).pcs[k0]? = some P0 := by
      show (A.pcs.set k1 Q2)[k0]? = some P0
      rw [List.getElem?_set_ne (Ne.symm hne)]
      exact hP0
    have hx : H3 P0.a = some (.ins CI P0.dx (pcF P0)) := S3.flPc hR
    have hx2 : SqL K H3 P0.p (pcV P0.s.holds) := .inl (.inl (S3.flPp hR))
    repeat tb_start
    refine v_holdPc S3 hR hhl k1 fun H4 S4 => ?_
    have hR2 : ({ A with pcs := (A.pcs.set k1 Q2).set k0 (P0.hold (.pc k1)) } : AFl).pcs[k0]? = some (P0.hold (.pc k1)) := List.getElem?_set_self (by rw [List.length_set]; exact hk0)
    have hQ3 : ({ A with pcs := (A.pcs.set k1 Q2).set k0 (P0.hold (.pc k1)) } : AFl).pcs[k1]? = some Q2 := by
      show ((A.pcs.set k1 Q2).set k0 (P0.hold (.pc k1)))[k1]? = some Q2
      rw [List.getElem?_set_ne hne]
      exact List.getElem?_set_self hk1
    have hx3 : H4 P0.a = some (.ins CI P0.dx (pcF (P0.hold (.pc k1)))) := S4.flPc (P := P0.hold (.pc k1)) hR2
    have hx4 : H4 P1.a = some (.ins CI P1.dx (pcF Q2)) := S4.flPc (P := Q2) hQ3
    repeat tb_start
    let P3 : APc := { P0.hold (.pc k1) with s := { (P0.hold (.pc k1)).s with cost := P0.s.cost + P1.s.cost } }
    refine afP (P := P0.hold (.pc k1)) S4 hR2 P3 ⟨rfl, rfl, rfl, rfl, rfl⟩ rfl fun H5 S5 => ?_
    dsimp only at S5
    rw [List.set_set] at S5
    refine kk _ B H5 (Ex.refl _) S5.nil2 ⟨rfl, rfl, rfl, rfl, rfl, rfl, rfl, rfl, ?_, rfl, rfl⟩ ?_
    · show ((A.pcs.set k1 Q2).set k0 P3).map (·.a) = _
      rw [map_a_set (P' := P3) (show (A.pcs.set k1 Q2)[k0]? = some P0 from hR) rfl, map_a_set (P' := Q2) hP1 rfl]
    · unfold AFl.st Fl.give
      dsimp only
      rw [List.getElem?_map, hP1, List.getElem?_map, hP0]
      simp only [Option.map_some, List.map_set]
      rfl
end
end LW

namespace LW
open PySem PySem.Spec PyProof.Rows L2 WK PM
abbrev s_Floor_put_in : Stmt := inClass (topS 35) 7
theorem sc_Floor_put_in : FnScope ["self", "number", "piece", "some", "other", "lot", "many"] ["self", "number", "piece", "some"] (defScope s_Floor_put_in) := ⟨rfl, rfl, rfl, by decide +kernel, rfl, by decide +kernel, by decide +kernel⟩
/-- what was taken, as it stands -/
def TakenK (K : PySem.W.Frag) (B : Hp) (v : V) (hs : List Hold) : Prop := (∃ D od xs, v = .ref D ∧ B D = some (.frz od (.dK (kvN xs))) ∧ hs = lotHolds xs) ∨ (∃ ks, Dp K B v (.list (ks.map fun (k : Nat) => PyData.int (k : Int))) ∧ hs = pcHolds ks)
theorem TakenK.up {K : PySem.W.Frag} {B B' : Hp} {v : V} {hs : List Hold} (e : Ex B B') (h : TakenK K B v hs) : TakenK K B' v hs := by
  rcases h with ⟨D, od, xs, h1, h2, h3⟩ | ⟨ks, h1, h2⟩
  · exact .inl ⟨D, od, xs, h1, e _ _ h2, h3⟩
  · exact .inr ⟨ks, h1.up e, h2⟩
def spPutIn (K : PySem.W.Frag) (CF CL CI : Addr) : Sp := fun vs H Q _ => ∃ (B : Hp) (A : AFl) (k0 : Nat) (P0 : APc) (v : V) (hs : List Hold), vs = [.ref A.f, .int (k0 : Int), .ref P0.a, v] ∧ Ok ⟨B, H, (FL CF CL CI A).map (·.1)⟩ B (FL CF CL CI A) H ∧ A.pcs[k0]? = some P0 ∧ TakenK K B v hs ∧ GiveOk A.lots.length A.pcs.length k0 P0.s.holds hs ∧
  ∀ A' P' B' H', Ex B B' → Ok ⟨B, H, (FL CF CL CI A).map (·.1)⟩ B' (FL CF CL CI A') H' → Grown A A' → A'.st = A.st.giveAll k0 hs → A'.pcs[k0]? = some P' → P'.a = P0.a → P'.s.holds = P0.s.holds ++ hs → Q .non H'
theorem Grown.pcs {A A' : AFl} (g : Grown A A') {k : Nat} {P : APc} (h : A.pcs[k]? = some P) : ∃ P', A'.pcs[k]? = some P' ∧ P'.a = P.a := by
  have e := congrArg (fun l => l[k]?) g.2.2.2.2.2.2.2.2.1
  rw [List.getElem?_map, List.getElem?_map, h] at e
  cases h2 : A'.pcs[k]? with
  | none => rw [h2] at e; cases e
  | some P' => rw [h2] at e; exact ⟨P', rfl, Option.some.inj e⟩
theorem Grown.np {A A' : AFl} (g : Grown A A') : A'.pcs.length = A.pcs.length := by
  have e := congrArg List.length g.2.2.2.2.2.2.2.2.1
  rwa [List.length_map, List.length_map] at e
theorem Grown.nl {A A' : AFl} (g : Grown A A') : A'.lots.length = A.lots.length := g.2.2.2.2.2.2.2.1
section
variable {P : Program} {w : World} {K : PySem.W.Frag} {mg : Str → Option Value} {base : Heap}
theorem ok_put_in {f CP CF CL CI : Addr} {fd : FuncData} (F : Fun K "put_in" "Floor.put_in" s_Floor_put_in f fd) (G_hold : MtG P w K mg base 1 CF "hold" ["self", "number", "piece", "other"] (spHold CF CL CI)) (fk : FlK K CP CF CL CI) (n_isinstance : mg "isinstance" = none) (n_list : mg "list" = none) : FnOk P w K mg base CX0 2 f fd ["self", "number", "piece", "some"] (spPutIn K CF CL CI) := by
  obtain ⟨cP, cF, cL, cI, a1, a2, b1, b2, b3, b4, b5, b6, b7, c1, c2, c3, d1, d2, d3, d4, d5, d6, d7, d8⟩ := fk
  refine F.ok sc_Floor_put_in (fun vs H Q E h => ?_) (fun cdv A outer s H vs Q E hr h => ?_)
  · obtain ⟨B, A, k0, P0, v, hs, rfl, _⟩ := h
    rfl
  · obtain ⟨B, A, k0, P0, v, hs, rfl, S, hP0, ht, gk, kk⟩ := h
    have S0 := S.nil1
    refine with_al (P := P) (w := w) (K := K) hr (fun al => ?_)
    refine ⟨_, (pss_one (ps_if (pt_val (pe_callB (callU al) (by rfl) n_isinstance b_isinstance (pa_cons (pv 3) (pa_cons (pe_bt n_list b_list (by rfl)) pa_nil)))) (pss_one (ps_for PassesOwn.never rfl (pi_val al (pv 3)) (pg_name (i := 4) sc_Floor_put_in.nd rfl (by first | exact Or.inl rfl | exact Or.inr rfl)) (pss_one (ps_expr (pe_mth G_hold (hr.mono (by first | decide | omega)) (pv 0) (pa_cons (pv 1) (pa_cons (pv 2) (pa_cons (pv 4) pa_nil)))))))) (pss_one (ps_for PassesOwn.never rfl (pi_items (pv 3)) (pg_tupU (n := 2) K (pgs_cons (pg_name (i := 5) sc_Floor_put_in.nd rfl (by first | exact Or.inl rfl | exact Or.inr rfl)) (pgs_cons (pg_name (i := 6) sc_Floor_put_in.nd rfl (by first | exact Or.inl rfl | exact Or.inr rfl)) pgs_nil))) (pss_cons (ps_augK K (pe_ix (ixU al) (pe_fldU K (pv 0) rfl) (pv 5) (fun _ _ => rfl)) (pv 6) in_sub) (pss_cons (ps_asg (pe_op (opU al) (pe_bmU K PySem.F.plainAttrs_dict PySem.F.slot_dict_get PySem.F.type_dict_get (metU al) (pe_fldU K (pv 2) rfl) (pa_cons (pv 5) (pa_cons pe_int pa_nil))) (pv 6)) (pg_sub (pe_fldU K (pv 2) rfl) (pv 5) (setU al))) (pss_one (ps_augK K (pv 2) (pe_op (opU al) (pv 6) (pe_fldU K (pe_ix (ixU al) (pe_fldU K (pv 0) rfl) (pv 5) (fun _ _ => rfl)) rfl)) in_add)))))))), ?_⟩
    repeat tb_start
    rcases ht with ⟨D, od, xs, rfl, hD, rfl⟩ | ⟨ks, hv, rfl⟩
    · refine v_isiFD (S0.stay hD) (by decide) ?_
      repeat tb_start
      refine ifF (by decide) ?_
      repeat tb_start
      refine itmQ (S0.stay hD) ?_
      refine forDS src_items S0 (fun i σ B1 L1 => (∃ yy4 yy5 yy6, σ = [some (.ref A.f), some (.int (k0 : Int)), some (.ref P0.a), some (.ref D), yy4, yy5, yy6]) ∧ ∃ A1 P1, L1 = FL CF CL CI A1 ++ [] ∧ Grown A A1 ∧ A1.st = A.st.giveAll k0 (lotHolds (xs.take i)) ∧ A1.pcs[k0]? = some P1 ∧ P1.a = P0.a ∧ P1.s.holds = P0.s.holds ++ lotHolds (xs.take i)) (fun i σ B1 L1 e _ => .inl (e _ _ hD)) ?_ ?_ ?_
      · exact ⟨⟨_, _, _, rfl⟩, A, P0, rfl, Grown.refl A, rfl, hP0, rfl, by simp [lotHolds]⟩
      · rintro i y xv σ B1 B2 L1 H2 hget ⟨⟨_, _, _, rfl⟩, A1, P1, rfl, g1, hst1, hP1, ha1, hh1⟩ e1 e2 S2 ⟨T, rfl, hT⟩
        obtain ⟨x, hx, rfl⟩ : ∃ x, xs[i]? = some x ∧ (Sum.inl (x.1 : Int), V.int x.2) = y := by
          unfold kvN at hget
          rw [List.getElem?_map] at hget
          obtain ⟨x, h1, h2⟩ := Option.map_eq_some_iff.mp hget
          exact ⟨x, h1, h2⟩
        have hsplit : lotHolds xs = lotHolds (xs.take i) ++ (.lot x.1 x.2 :: lotHolds (xs.drop (i + 1))) := by
          have : xs = xs.take i ++ x :: xs.drop (i + 1) := by
            obtain ⟨h1, h2⟩ := List.getElem?_eq_some_iff.mp hx
            rw [← h2, List.getElem_cons_drop, List.take_append_drop]
          unfold lotHolds
          conv => lhs; rw [this]
          rw [List.map_append]
          rfl
        rw [hsplit] at gk
        have gk2 := gk.app.2
        have hl := gk2.lot x.1 x.2 (.head _)
        obtain ⟨lt, hlt⟩ : ∃ lt, A1.lots[x.1]? = some lt := ⟨_, List.getElem?_eq_getElem (by rw [g1.nl]; exact hl.1)⟩
        have hf1 : A1.f = A.f := g1.1
        rw [← hf1, ← ha1]
        refine r_gtupB S2 hT rfl ?_
        show gCons _ _ [.int (x.1 : Int), .int x.2] _ _ _
        repeat tb_start
        refine v_ixL (.inl (.inl S2.flL)) (atI_nat (by rw [List.getElem?_map, hlt]; rfl)) ?_
        have hx1 : H2 lt.a = some (.ins CL lt.dx (ltF lt.s)) := S2.flLot hlt
        repeat tb_start
        let s1 : Lt := { lt.s with left := lt.s.left - x.2 }
        refine afL S2 hlt s1 rfl fun H3 S3 => ?_
        have hP1' : ({ A1 with lots := A1.lots.set x.1 { lt with s := s1 } } : AFl).pcs[k0]? = some P1 := hP1
        have hx2 : H3 P1.a = some (.ins CI P1.dx (pcF P1)) := S3.flPc (P := P1) hP1'
        have hx3 : H3 P1.l = some (.dK (lotKV P1.s.holds)) := S3.flPl (P := P1) hP1'
        repeat tb_start
        have hfr : ∀ m', Hold.lot x.1 m' ∉ P1.s.holds := by rw [hh1]; exact gk2.fresh
        have hno : valV (lotKV P1.s.holds) (.inl (x.1 : Int)) = none := lotKV_none hfr
        refine v_get2I (kvs := lotKV P1.s.holds) (.inl hx3) ?_
        rw [hno, Option.getD_none]
        repeat tb_start
        rw [Int.zero_add]
        refine v_holdLot S3 hP1' (by rw [hh1, List.length_append]; have := gk2.len; rw [List.length_append] at this; omega) x.1 x.2 hfr fun H4 S4 => ?_
        dsimp only at S4
        have hP2 : ({ A1 with lots := A1.lots.set x.1 { lt with s := s1 }, pcs := A1.pcs.set k0 (P1.hold (.lot x.1 x.2)) } : AFl).pcs[k0]? = some (P1.hold (.lot x.1 x.2)) := List.getElem?_set_self (List.getElem?_eq_some_iff.mp hP1).1
        have hx4 : H4 P1.a = some (.ins CI P1.dx (pcF (P1.hold (.lot x.1 x.2)))) := S4.flPc (P := P1.hold (.lot x.1 x.2)) hP2
        have hl2 : ({ A1 with lots := A1.lots.set x.1 { lt with s := s1 }, pcs := A1.pcs.set k0 (P1.hold (.lot x.1 x.2)) } : AFl).lots[x.1]? = some { lt with s := s1 } := List.getElem?_set_self (List.getElem?_eq_some_iff.mp hlt).1
        have hx5 : H4 lt.a = some (.ins CL lt.dx (ltF s1)) := S4.flLot (x := { lt with s := s1 }) hl2
        repeat tb_start
        refine v_ixL (.inl (.inl S4.flL)) (atI_nat (by rw [List.getElem?_map, hl2]; rfl)) ?_
        repeat tb_start
        let P3 : APc := { P1.hold (.lot x.1 x.2) with s := { (P1.hold (.lot x.1 x.2)).s with cost := P1.s.cost + x.2 * lt.s.price } }
        refine afP (P := P1.hold (.lot x.1 x.2)) S4 hP2 P3 ⟨rfl, rfl, rfl, rfl, rfl⟩ rfl fun H5 S5 => ?_
        dsimp only at S5
        rw [List.set_set] at S5
        have htk : lotHolds (xs.take (i + 1)) = lotHolds (xs.take i) ++ [.lot x.1 x.2] := by
          unfold lotHolds
          rw [List.take_add_one, hx, List.map_append]
          rfl
        refine NxE.mk' S5 (by nest_room) ?_
        refine ⟨⟨_, _, _, rfl⟩, _, P3, rfl, g1.trans ⟨rfl, rfl, rfl, rfl, rfl, rfl, rfl, List.length_set, map_a_set (P' := P3) hP1 rfl, rfl, rfl⟩, ?_, List.getElem?_set_self (List.getElem?_eq_some_iff.mp hP1).1, rfl, ?_⟩
        · rw [htk, giveAll_app, ← hst1]
          show _ = A1.st.give k0 (.lot x.1 x.2)
          unfold AFl.st Fl.give
          dsimp only
          rw [List.getElem?_map, hlt, List.getElem?_map, hP1]
          simp only [Option.map_some, List.map_set]
          rfl
        · rw [htk, ← List.append_assoc, ← hh1]
      · rintro σ B1 L1 H2 ⟨⟨_, _, _, rfl⟩, A1, P1, rfl, g1, hst1, hP1, ha1, hh1⟩ e1 S2
        have hxl : xs.take (kvN xs).length = xs := by unfold kvN; rw [List.length_map, List.take_length]
        rw [hxl] at hst1 hh1
        exact kk A1 P1 B1 H2 e1 S2.nil2 g1 hst1 hP1 ha1 hh1
    · refine v_isiD (T := "list") S0 hv (by decide) ?_
      repeat tb_start
      refine ifT (show isT "list" "list" = true by decide) ?_
      repeat tb_start
      refine forDL (enc := fun (k : Nat) => PyData.int (k : Int)) S0 hv (fun i σ B1 L1 => (∃ yy4 yy5 yy6, σ = [some (.ref A.f), some (.int (k0 : Int)), some (.ref P0.a), some (v), yy4, yy5, yy6]) ∧ ∃ A1 P1, L1 = FL CF CL CI A1 ++ [] ∧ Grown A A1 ∧ A1.st = A.st.giveAll k0 (pcHolds (ks.take i)) ∧ A1.pcs[k0]? = some P1 ∧ P1.a = P0.a ∧ P1.s.holds = P0.s.holds ++ pcHolds (ks.take i)) ?_ ?_ ?_
      · exact ⟨⟨_, _, _, rfl⟩, A, P0, rfl, Grown.refl A, rfl, hP0, rfl, by simp [pcHolds]⟩
      · rintro i k1 xv σ B1 B2 L1 H2 hx ⟨⟨_, _, _, rfl⟩, A1, P1, rfl, g1, hst1, hP1, ha1, hh1⟩ e1 e2 S2 hxv
        obtain rfl := hxv.int_inv
        have hsplit : pcHolds ks = pcHolds (ks.take i) ++ (.pc k1 :: pcHolds (ks.drop (i + 1))) := by
          have : ks = ks.take i ++ k1 :: ks.drop (i + 1) := by
            obtain ⟨h1, h2⟩ := List.getElem?_eq_some_iff.mp hx
            rw [← h2, List.getElem_cons_drop, List.take_append_drop]
          unfold pcHolds
          conv => lhs; rw [this]
          rw [List.map_append]
          rfl
        rw [hsplit] at gk
        have gk2 := gk.app.2
        have hl := gk2.pc k1 (.head _)
        obtain ⟨q, hq⟩ : ∃ q, A1.pcs[k1]? = some q := ⟨_, List.getElem?_eq_getElem (by rw [g1.np]; exact hl.1)⟩
        have htk : pcHolds (ks.take (i + 1)) = pcHolds (ks.take i) ++ [.pc k1] := by
          unfold pcHolds
          rw [List.take_add_one, hx, List.map_append]
          rfl
        have hf1 : A1.f = A.f := g1.1
        rw [← hf1, ← ha1]
        repeat tb_start
        refine ⟨B2, A1, k0, k1, P1, q, rfl, (S2.nil2).again, hP1, hq, Ne.symm hl.2, by rw [hh1, List.length_append]; have := gk2.len; rw [List.length_append] at this; omega, fun A2 B3 H3 e3 T3 g2 hst2 => ?_⟩
        have S3 : Ok ⟨B, H, (FL CF CL CI A).map (·.1)⟩ B3 (FL CF CL CI A2 ++ []) H3 := S2.call T3
        obtain ⟨P2, hP2, ha2⟩ := g2.pcs hP1
        have hs2 : P2.s = { P1.s with holds := P1.s.holds ++ [.pc k1], cost := P1.s.cost + q.s.cost } := by
          have h1 : (A2.st).pcs[k0]? = some P2.s := by show (A2.pcs.map (·.s))[k0]? = _; rw [List.getElem?_map, hP2]; rfl
          rw [hst2, give_pc (p := P1.s) (q := q.s) (by show (A1.pcs.map (·.s))[k0]? = _; rw [List.getElem?_map, hP1]; rfl) (by show (A1.pcs.map (·.s))[k1]? = _; rw [List.getElem?_map, hq]; rfl) hl.2] at h1
          exact (Option.some.inj h1).symm
        repeat tb_start
        refine NxE.mk' S3 (by nest_room) ?_
        refine ⟨⟨_, _, _, rfl⟩, A2, P2, rfl, g1.trans g2, ?_, hP2, ha2, ?_⟩
        · rw [htk, giveAll_app, ← hst1]
          exact hst2
        · rw [hs2, htk, ← List.append_assoc, ← hh1]
      · rintro σ B1 L1 H2 ⟨⟨_, _, _, rfl⟩, A1, P1, rfl, g1, hst1, hP1, ha1, hh1⟩ e1 S2
        rw [List.take_length] at hst1 hh1
        exact kk A1 P1 B1 H2 e1 S2.nil2 g1 hst1 hP1 ha1 hh1
end
end LW

namespace LW
open PySem PySem.Spec PyProof.Rows L2 WK PM
abbrev s_Floor_begin : Stmt := inClass (topS 35) 6
theorem sc_Floor_begin : FnScope ["self", "part", "taken", "other", "many", "some", "piece", "number"] ["self", "part"] (defScope s_Floor_begin) := ⟨rfl, rfl, rfl, by decide +kernel, rfl, by decide +kernel, by decide +kernel⟩
def spBegin (K : PySem.W.Frag) (CP CF CL CI : Addr) : Sp := fun vs H Q _ => ∃ (B : Hp) (A : AFl) (z : Str) (r : PRow) (hss : List (List Hold)), vs = [.ref A.f, .str z] ∧ FS K CP CF CL CI B H A ∧ rowOf A.rs z = some r ∧ (r.needs.isEmpty && r.steps.isEmpty) = false ∧ hss.length = r.needs.length ∧
  (∀ (i : Nat) (x : Str × Int) (hs : List Hold), r.needs[i]? = some x → hss[i]? = some hs → A.st.taken x.1 x.2 = some hs) ∧ GiveOk A.lots.length (A.pcs.length + 1) A.pcs.length [] hss.flatten ∧
  DoneQ K CP CF CL CI B H A (A.st.begin_ z r.steps.isEmpty hss.flatten) (Q (.int (A.pcs.length : Int)))
theorem need_row {rs : List PRow} (G : GoodBook rs) {z : Str} {r : PRow} (h : rowOf rs z = some r) : r.needs.length ≤ 12 ∧ ∀ x ∈ r.needs, (1 ≤ x.2 ∧ x.2 ≤ 9) ∧ ∃ q, rowOf rs x.1 = some q := by
  obtain ⟨hm, hn⟩ := rowOf_mem h
  obtain ⟨i, hi⟩ := List.getElem?_of_mem hm
  have R := G.row i r hi
  have hnl := G.lines18 r hm
  unfold rowLines at hnl
  rw [List.length_cons, List.length_append, List.length_map, List.length_map] at hnl
  have hlen : r.needs.length ≤ 12 := by
    have := nodup_sub_length R.nd (l' := (rs.take i).map (·.name)) (by
      intro x hx
      obtain ⟨y, hy, rfl⟩ := List.mem_map.mp hx
      exact R.known y hy)
    rw [List.length_map, List.length_map, List.length_take] at this
    have := G.len
    omega
  refine ⟨hlen, fun x hx => ⟨R.many x hx, ?_⟩⟩
  obtain ⟨q, hq, e⟩ := List.mem_map.mp (R.known x hx)
  have : (rowOf rs x.1).isSome = true := by
    unfold rowOf
    rw [List.find?_isSome]
    exact ⟨q, List.mem_of_mem_take hq, by simpa using e⟩
  exact Option.isSome_iff_exists.mp this
theorem modify_some {α : Type} {l : List α} {k : Nat} {x : α} {f : α → α} (h : l[k]? = some x) : l.modify k f = l.set k (f x) := by
  apply List.ext_getElem?
  intro j
  rw [List.getElem?_modify, List.getElem?_set]
  by_cases e : k = j
  · subst e
    have hk := (List.getElem?_eq_some_iff.mp h).1
    have e2 := (List.getElem?_eq_some_iff.mp h).2
    simp [h, hk, e2]
  · simp [e]
theorem taken_st {A : AFl} {z : Str} {m : Int} {q : PRow} (hq : rowOf A.rs z = some q) : A.st.taken z m = (if (q.needs.isEmpty && q.steps.isEmpty) = true then (if (takeLots (A.lots.map (·.s)) z m).2 = 0 then some (lotHolds (takeLots (A.lots.map (·.s)) z m).1) else none)
  else if m.toNat ≤ (stockOf (A.pcs.map (·.s)) z).length then some (pcHolds ((stockOf (A.pcs.map (·.s)) z).take m.toNat)) else none) := by
  unfold Fl.taken isBought AFl.st
  dsimp only
  rw [hq]
section
variable {P : Program} {w : World} {K : PySem.W.Frag} {mg : Str → Option Value} {base : Heap}
theorem ok_begin {f CP CF CL CI : Addr} {fd : FuncData} (F : Fun K "begin" "Floor.begin" s_Floor_begin f fd) (G_need_part : MtG P w K mg base 1 CP "need_part" ["self", "name"] (spNeedPart K CP)) (G_is_bought : MtG P w K mg base 2 CP "is_bought" ["self", "name"] (spIsBought K CP)) (G_needs_of : MtG P w K mg base 1 CP "needs_of" ["self", "name"] (spNeedsOf K CP)) (G_steps_of : MtG P w K mg base 1 CP "steps_of" ["self", "name"] (spStepsOf K CP))
    (G_lots_for : MtG P w K mg base 1 CF "lots_for" ["self", "part", "many"] (spLotsFor K CF CL CI)) (G_pieces_for : MtG P w K mg base 1 CF "pieces_for" ["self", "part", "many"] (spPiecesFor K CF CL CI)) (G_Piece : MkG P w K mg base 1 CI "Piece" ["self", "part"] (spPieceI CI)) (G_put_in : MtG P w K mg base 2 CF "put_in" ["self", "number", "piece", "some"] (spPutIn K CF CL CI))
    (fk : FlK K CP CF CL CI) (n_len : mg "len" = none) (c_MADE : GlS mg "MADE" "made") : FnOk P w K mg base CX0 3 f fd ["self", "part"] (spBegin K CP CF CL CI) := by
  obtain ⟨cP, cF, cL, cI, a1, a2, b1, b2, b3, b4, b5, b6, b7, c1, c2, c3, d1, d2, d3, d4, d5, d6, d7, d8⟩ := fk
  refine F.ok sc_Floor_begin (fun vs H Q E h => ?_) (fun cdv A outer s H vs Q E hr h => ?_)
  · obtain ⟨B, A, z, r, hss, rfl, _⟩ := h
    rfl
  · obtain ⟨B, A, z, r, hss, rfl, ⟨S, fb, hfew⟩, hrow, hnb, hsl, htk, gk, kk⟩ := h
    have hfew2 := fb.few
    have hnv := nv_len fb
    have S0 := S.nil1
    have bk := fb.book
    obtain ⟨hnl, hneeds⟩ := need_row fb.good hrow
    obtain ⟨bdx, ba, bl, rkv, lkv, hb1, hb2, hb3, RK, LK⟩ := id bk
    refine with_al (P := P) (w := w) (K := K) hr (fun al => ?_)
    refine ⟨_, (pss_cons (ps_expr (pe_mth G_need_part (hr.mono (by first | decide | omega)) (pe_fldU K (pv 0) rfl) (pa_cons (pv 1) pa_nil))) (pss_cons (ps_if (pt_val (pe_mth G_is_bought (hr.mono (by first | decide | omega)) (pe_fldU K (pv 0) rfl) (pa_cons (pv 1) pa_nil))) (pss_one ps_never) pss_nil) (pss_cons (ps_asg (pe_lst pa_nil) (pg_name (i := 2) sc_Floor_begin.nd rfl (by first | exact Or.inl rfl | exact Or.inr rfl))) (pss_cons (ps_for PassesOwn.never rfl (pi_val al (pe_mth G_needs_of (hr.mono (by first | decide | omega)) (pe_fldU K (pv 0) rfl) (pa_cons (pv 1) pa_nil))) (pg_tupU (n := 2) K (pgs_cons (pg_name (i := 3) sc_Floor_begin.nd rfl (by first | exact Or.inl rfl | exact Or.inr rfl)) (pgs_cons (pg_name (i := 4) sc_Floor_begin.nd rfl (by first | exact Or.inl rfl | exact Or.inr rfl)) pgs_nil))) (pss_cons (ps_cut (ps_asg (pe_ifExp (pt_val (pe_mth G_is_bought (hr.mono (by first | decide | omega)) (pe_fldU K (pv 0) rfl) (pa_cons (pv 3) pa_nil))) (pe_frzA (pe_mth G_lots_for (hr.mono (by first | decide | omega)) (pv 0) (pa_cons (pv 3) (pa_cons (pv 4) pa_nil)))) (pe_mth G_pieces_for (hr.mono (by first | decide | omega)) (pv 0) (pa_cons (pv 3) (pa_cons (pv 4) pa_nil)))) (pg_name (i := 5) sc_Floor_begin.nd rfl (by first | exact Or.inl rfl | exact Or.inr rfl)))) (pss_cons (ps_if (pt_cmpR op_isN (pv 5) pe_non (nomark _)) (pss_one ps_never) pss_nil) (pss_one (ps_expr (pe_bmU K PySem.F.plainAttrs_list PySem.F.slot_list_append PySem.F.type_list_append (metU al) (pv 2) (pa_cons (pv 5) pa_nil))))))) (pss_cons (ps_asg (pe_mk G_Piece (hr.mono (by first | decide | omega)) rfl (pa_cons (pv 1) pa_nil)) (pg_name (i := 6) sc_Floor_begin.nd rfl (by first | exact Or.inl rfl | exact Or.inr rfl))) (pss_cons (ps_asg (pe_callB (callU al) (by rfl) n_len b_len (pa_cons (pe_fldU K (pv 0) rfl) pa_nil)) (pg_name (i := 7) sc_Floor_begin.nd rfl (by first | exact Or.inl rfl | exact Or.inr rfl))) (pss_cons (ps_expr (pe_bmU K PySem.F.plainAttrs_list PySem.F.slot_list_append PySem.F.type_list_append (metU al) (pe_fldU K (pv 0) rfl) (pa_cons (pv 6) pa_nil))) (pss_cons (ps_for PassesOwn.never rfl (pi_val al (pv 2)) (pg_name (i := 5) sc_Floor_begin.nd rfl (by first | exact Or.inl rfl | exact Or.inr rfl)) (pss_one (ps_expr (pe_mth G_put_in (hr.mono (by first | decide | omega)) (pv 0) (pa_cons (pv 7) (pa_cons (pv 6) (pa_cons (pv 5) pa_nil))))))) (pss_cons (ps_if (pt_cmpR (opU al) (pe_mth G_steps_of (hr.mono (by first | decide | omega)) (pe_fldU K (pv 0) rfl) (pa_cons (pv 1) pa_nil)) (pe_tup pa_nil) (nomark _)) (pss_one (ps_fldK K (pv 6) (pe_gs c_MADE rfl) rfl)) pss_nil) (pss_cons (ps_expr (pe_bmU K PySem.F.plainAttrs_list PySem.F.slot_list_append PySem.F.type_list_append (metU al) (pe_fldU K (pv 0) rfl) (pa_cons (pe_tup (pa_cons pe_str (pa_cons (pv 1) pa_nil))) pa_nil))) (pss_one (ps_ret (pv 7))))))))))))), ?_⟩
    repeat tb_start
    refine ⟨B, A.bk, A.rs, r, z, rfl, S0.ex, bk, hrow, ?_⟩
    repeat tb_start
    refine ⟨B, A.bk, A.rs, r, z, rfl, S0.ex, bk, hrow, fun B1 H1 T1 => ?_⟩
    have S1 := S0.callP T1
    have e1 := T1.ex0
    rw [hnb]
    repeat tb_start
    refine new_lst S1 (by decide) fun T H2 S2 => ?_
    have hbk2 : H2 A.bk = some (.ins CP bdx (fldsP ba bl)) := S2.ex _ _ (e1 _ _ hb1)
    repeat tb_start
    refine ⟨B1, A.bk, A.rs, r, z, rfl, S2.ex, bk.up e1, hrow, fun v hv => ?_⟩
    refine forDT S2 hv (fun i σ B1 L1 => (∃ yy3 yy4 yy5 yy6 yy7, σ = [some (.ref A.f), some (.str z), some (.ref T), yy3, yy4, yy5, yy6, yy7]) ∧ ∃ tvs : List V, L1 = (T, .lst tvs) :: (FL CF CL CI A ++ []) ∧ tvs.length = i ∧ ∀ (j : Nat) v, tvs[j]? = some v → ∃ hs, hss[j]? = some hs ∧ TakenK K B1 v hs) ?_ ?_ ?_
    · exact ⟨⟨_, _, _, _, _, rfl⟩, [], rfl, rfl, fun j v h => by simp at h⟩
    · rintro i x xv σ B2 B3 L1 H3 hx ⟨⟨_, _, _, _, _, rfl⟩, tvs, rfl, htl, htv⟩ e2 e3 S3 hxv
      obtain ⟨⟨x1, x2⟩, q, hq⟩ := hneeds x (List.mem_of_getElem? hx)
      have hil := (List.getElem?_eq_some_iff.mp hx).1
      obtain ⟨hs, hhs⟩ : ∃ hs, hss[i]? = some hs := ⟨_, List.getElem?_eq_getElem (by omega)⟩
      have ht0 := htk i x hs hx hhs
      rw [taken_st hq] at ht0
      have bk3 := bk.up (e1.trans (e2.trans e3))
      refine r_gtupSI S3 hxv ?_
      repeat tb_start
      refine cutS (fun σ' H' => ∃ tv, (∃ yy6 yy7, σ' = [some (.ref A.f), some (.str z), some (.ref T), some (.str x.1), some (.int x.2), some (tv), yy6, yy7]) ∧ ∃ B', Ex B3 B' ∧ TakenK K B' tv hs ∧ Ok ⟨B, H, (FL CF CL CI A).map (·.1)⟩ B' ((T, .lst tvs) :: (FL CF CL CI A ++ [])) H') ?_ ?_
      · have hbk3 : H3 A.bk = some (.ins CP bdx (fldsP ba bl)) := S3.ex _ _ ((e1.trans (e2.trans e3)) _ _ hb1)
        repeat tb_start
        refine ⟨B3, A.bk, A.rs, q, x.1, rfl, S3.ex, bk3, hq, fun B4 H4 T4 => ?_⟩
        have S4 := S3.callP T4
        have e4 := T4.ex0
        repeat tb_start
        refine ifb (fun hb => ?_) (fun hb => ?_)
        · rw [if_pos hb] at ht0
          have hz : (takeLots (A.lots.map (·.s)) x.1 x.2).2 = 0 := by
            by_cases h : (takeLots (A.lots.map (·.s)) x.1 x.2).2 = 0
            · exact h
            · rw [if_neg h] at ht0; cases ht0
          rw [if_pos hz] at ht0
          cases ht0
          repeat tb_start
          have S5 : Ok ⟨B, H, (FL CF CL CI A).map (·.1)⟩ B4 (FL CF CL CI A ++ [(T, .lst tvs)]) H4 := S4.perm (by rw [List.append_nil]; exact (List.perm_append_comm (l₁ := [(T, HO.lst tvs)])))
          refine ⟨B4, A, x.1, x.2, rfl, S5.sub, by omega, hz, fun D B6 H6 e6 T6 => ?_⟩
          have S6 := S5.call T6
          refine frzQ (S6.own _ (.head _)).1 trivial fun od => ?_
          obtain ⟨B7, e7, hD, S7⟩ := S6.freezeD (od := od)
          have S8 : Ok ⟨B, H, (FL CF CL CI A).map (·.1)⟩ B7 ((T, .lst tvs) :: (FL CF CL CI A ++ [])) _ := S7.perm (by rw [List.append_nil]; exact (List.perm_append_comm (l₂ := [(T, HO.lst tvs)])))
          repeat tb_start
          exact ⟨_, ⟨_, _, rfl⟩, B7, by nest_room, .inl ⟨D, od, _, rfl, hD, rfl⟩, S8⟩
        · rw [if_neg (by rw [hb]; decide)] at ht0
          have hz : x.2.toNat ≤ (stockOf (A.pcs.map (·.s)) x.1).length := by
            by_cases h : x.2.toNat ≤ (stockOf (A.pcs.map (·.s)) x.1).length
            · exact h
            · rw [if_neg h] at ht0; cases ht0
          rw [if_pos hz] at ht0
          cases ht0
          repeat tb_start
          have S5 : Ok ⟨B, H, (FL CF CL CI A).map (·.1)⟩ B4 (FL CF CL CI A ++ [(T, .lst tvs)]) H4 := S4.perm (by rw [List.append_nil]; exact (List.perm_append_comm (l₁ := [(T, HO.lst tvs)])))
          refine ⟨B4, A, x.1, x.2.toNat, by rw [Int.toNat_of_nonneg (by omega)], S5.sub, by omega, hz, fun v6 B6 H6 e6 T6 h6 => ?_⟩
          have S6 := S5.call T6
          have S8 : Ok ⟨B, H, (FL CF CL CI A).map (·.1)⟩ B6 ((T, .lst tvs) :: (FL CF CL CI A ++ [])) _ := S6.perm (by rw [List.append_nil]; exact (List.perm_append_comm (l₂ := [(T, HO.lst tvs)])))
          repeat tb_start
          exact ⟨_, ⟨_, _, rfl⟩, B6, by nest_room, .inr ⟨_, h6, rfl⟩, S8⟩
      rintro σ4 H4 ⟨tv, ⟨_, _, rfl⟩, B4, e4, hT4, S4⟩
      have hnn : tv ≠ .non := by
        rcases hT4 with ⟨D, od, xs, rfl, _, _⟩ | ⟨ks, h, _⟩
        · exact fun z => nomatch z
        · intro z
          subst z
          cases h
      repeat tb_start
      refine ⟨rfl, ?_⟩
      repeat tb_start
      refine v_appendN 0 S4 rfl (by rw [sizeLine_eq]; omega) fun H5 S5 => ?_
      replace S5 : Ok ⟨B, H, (FL CF CL CI A).map (·.1)⟩ B4 ((T, .lst (tvs ++ [tv])) :: (FL CF CL CI A ++ [])) H5 := S5
      repeat tb_start
      refine NxE.mk' S5 (by nest_room) ?_
      refine ⟨⟨_, _, _, _, _, rfl⟩, tvs ++ [tv], rfl, by rw [List.length_append, htl]; rfl, fun j v hj => ?_⟩
      by_cases hji : j < tvs.length
      · rw [List.getElem?_append_left hji] at hj
        obtain ⟨hs', h1, h2⟩ := htv j v hj
        exact ⟨hs', h1, h2.up (e3.trans e4)⟩
      · have : j = tvs.length := by
          have := (List.getElem?_eq_some_iff.mp hj).1
          rw [List.length_append, List.length_singleton] at this
          omega
        subst this
        rw [List.getElem?_append_right (Nat.le_refl _), Nat.sub_self] at hj
        cases hj
        exact ⟨hs, by rw [htl]; exact hhs, hT4⟩
    · rintro σ B2 L1 H3 ⟨⟨_, _, _, _, _, rfl⟩, tvs, rfl, htl, htv⟩ e2 S3
      have e23 := S3.exF
      have S4 := S3.freeze
      have hT : upd B2 T (.lst tvs) T = some (.lst tvs) := upd_same
      generalize upd B2 T (.lst tvs) = B3 at e23 S4 hT
      replace htv : ∀ (j : Nat) v, tvs[j]? = some v → ∃ hs, hss[j]? = some hs ∧ TakenK K B3 v hs := fun j v hj => by
        obtain ⟨hs, h1, h2⟩ := htv j v hj
        exact ⟨hs, h1, h2.up e23⟩
      clear S3
      have e03 : Ex B B3 := e1.trans (e2.trans e23)
      repeat tb_start
      refine mkQ S4 fun p dx H5 S5 => ?_
      refine ⟨B3, p, dx, z, rfl, S5.sub (L1 := [_]), fun l pp H6 T6 => retQ ?_⟩
      have S6 : Ok ⟨B, H, (FL CF CL CI A).map (·.1)⟩ B3 (pcC CI ⟨p, dx, l, pp, newPc z⟩ ++ (FL CF CL CI A ++ [])) H6 := S5.call (L1 := [_]) T6
      clear S5 T6
      have hxF : H6 A.f = some (.ins CF A.dx (flF A)) := S6.mem (List.mem_append_right _ mF)
      have hxP : SqL K H6 A.pa (A.pcs.map fun P => .ref P.a) := S6.sqMem (List.mem_append_right _ mFp)
      repeat tb_start
      refine v_addPc (P := ⟨p, dx, l, pp, newPc z⟩) S6 (by rw [sizeLine_eq]; omega) fun H7 S7 => ?_
      have gk' := gk
      let P0 : APc := ⟨p, dx, l, pp, newPc z⟩
      let A0 : AFl := { A with pcs := A.pcs ++ [P0] }
      have hn0 : A0.pcs[A.pcs.length]? = some P0 := List.getElem?_concat_length
      have hA0f : A0.f = A.f := rfl
      rw [List.length_map]
      repeat tb_start
      refine ItU.list (.inl (.inl (S7.stay hT))) ?_
      refine forDS src_lstV (S7 : Ok ⟨B, H, (FL CF CL CI A).map (·.1)⟩ B3 (FL CF CL CI A0 ++ []) H7) (fun i σ B1 L1 => (∃ yy3 yy4 yy5, σ = [some (.ref A.f), some (.str z), some (.ref T), yy3, yy4, yy5, some (.ref p), some (.int (A.pcs.length : Int))]) ∧ ∃ A1 P1, L1 = FL CF CL CI A1 ++ [] ∧ Grown A0 A1 ∧ A1.st = A0.st.giveAll A.pcs.length (hss.take i).flatten ∧ A1.pcs[A.pcs.length]? = some P1 ∧ P1.a = p ∧ P1.s.holds = (hss.take i).flatten) (fun i σ B1 L1 e _ => .inl (.inl (e _ _ hT))) ?_ ?_ ?_
      · exact ⟨⟨_, _, _, rfl⟩, A0, P0, rfl, Grown.refl A0, rfl, hn0, rfl, rfl⟩
      · rintro i y xv σ B4 B5 L1 H8 hget ⟨⟨_, _, _, rfl⟩, A1, P1, rfl, g1, hst1, hP1, ha1, hh1⟩ e1' e2' S8 rfl
        obtain ⟨hs, hhs, htk1⟩ := htv i _ hget
        have hsplit : hss.flatten = (hss.take i).flatten ++ (hs ++ (hss.drop (i + 1)).flatten) := by
          have : hss = hss.take i ++ hs :: hss.drop (i + 1) := by
            obtain ⟨h1, h2⟩ := List.getElem?_eq_some_iff.mp hhs
            rw [← h2, List.getElem_cons_drop, List.take_append_drop]
          conv => lhs; rw [this]
          rw [List.flatten_append, List.flatten_cons]
        have htk2 : (hss.take (i + 1)).flatten = (hss.take i).flatten ++ hs := by
          rw [List.take_add_one, hhs, List.flatten_append]
          simp
        rw [hsplit] at gk'
        have gk2 := gk'.app.2
        have gk3 := gk2.app.1
        rw [List.nil_append] at gk3
        have hf1 : A1.f = A.f := g1.1
        rw [← hf1, ← ha1]
        repeat tb_start
        refine ⟨B5, A1, A.pcs.length, P1, _, hs, rfl, (S8.nil2).again, hP1, htk1.up (e1'.trans e2'), by rw [g1.nl, g1.np, hh1]; show GiveOk A.lots.length (A.pcs ++ [P0]).length _ _ _; rw [List.length_append]; exact gk3, fun A2 P2 B6 H9 e6 T6 g2 hst2 hP2 ha2 hh2 => ?_⟩
        have S9 : Ok ⟨B, H, (FL CF CL CI A).map (·.1)⟩ B6 (FL CF CL CI A2 ++ []) H9 := S8.call T6
        repeat tb_start
        refine NxE.mk' S9 (by nest_room) ?_
        refine ⟨⟨_, _, _, rfl⟩, A2, P2, rfl, g1.trans g2, ?_, hP2, ha2, ?_⟩
        · rw [htk2, giveAll_app, ← hst1]
          exact hst2
        · rw [hh2, htk2, ← hh1]
      · rintro σ B4 L1 H8 ⟨⟨_, _, _, rfl⟩, A1, P1, rfl, g1, hst1, hP1, ha1, hh1⟩ e4 S8
        have hft : (hss.take tvs.length).flatten = hss.flatten := by rw [htl, ← hsl, List.take_length]
        rw [hft] at hst1 hh1
        obtain ⟨q1, q2, q3, q4, q5, q6, q7, q8, q9, q10, q11⟩ := id g1
        have hf1 : A1.f = A.f := q1
        have hnp : A1.pcs.length = A.pcs.length + 1 := by rw [g1.np]; exact List.length_append
        have hnvl : A1.nv.length = A.nv.length := congrArg List.length q4
        have e04 : Ex B B4 := e03.trans e4
        have bk4 : BookAt K CP B4 A1.bk A1.rs := by
          rw [show A1.bk = A.bk from q2, show A1.rs = A.rs from q5]
          exact bk.up e04
        have hrow1 : rowOf A1.rs z = some r := by rw [show A1.rs = A.rs from q5]; exact hrow
        have hbk4 : H8 A1.bk = some (.ins CP bdx (fldsP ba bl)) := by rw [show A1.bk = A.bk from q2]; exact S8.ex _ _ (e04 _ _ hb1)
        rw [← hf1, ← ha1]
        repeat tb_start
        refine ⟨B4, A1.bk, A1.rs, r, z, rfl, S8.ex, bk4, hrow1, fun v5 hv5 => ?_⟩
        repeat tb_start
        refine new_tup S8 (by show 0 ≤ sizeLine; decide) fun t0 B5 H5 e5 ht0 S5 => ?_
        refine v_eqTNilD S5 (hv5.up e5) (S5.tqStay ht0) ?_
        repeat tb_start
        rw [List.isEmpty_map]
        have hfin : ∀ (A2 : AFl), A2.f = A1.f → A2.bk = A.bk → A2.rt = A.rt → A2.rs = A.rs → A2.rates = A.rates → A2.nv = A.nv → A2.book = A.book → A2.lots.length + A2.pcs.length = A.lots.length + A.pcs.length + 1 → ∀ (B6 H6 : Hp) (t : Addr) (H7 : Hp), Ex B B6 → B6 t = some (.tup [.str "begin", .str z]) → Ok ⟨B, H, (FL CF CL CI A).map (·.1)⟩ B6 (FL CF CL CI { A2 with nv := A2.nv ++ [.ref t], book := A2.book ++ [.begin_ z] } ++ []) H7 →
            AFl.st { A2 with book := A2.book ++ [.begin_ z] } = A.st.begin_ z r.steps.isEmpty hss.flatten → Q (.int (A.pcs.length : Int)) H7 := fun A2 h1 h2 h3 h4 h5 h6 h7 h8 B6 H6 t H7 e6 ht S7 hst => by
          refine kk _ B6 H7 e6 S7.nil2 (fb_put (d := .begin_ z) fb e6 (Dp.ofTup (ds := [.str "begin", .str z]) ht (.cons (.str _) (.cons (.str _) .nil))) h2 h3 h4 h5 ?_ ?_ ?_) hst (h1.trans hf1)
          · show A2.nv ++ _ = _
            rw [h6]
          · show A2.book ++ _ = _
            rw [h7]
          · exact Nat.le_of_eq h8
        have hk1 := (List.getElem?_eq_some_iff.mp hP1).1
        have hst0 : A0.st = { A.st with pcs := A.st.pcs ++ [newPc z] } := by
          unfold AFl.st
          dsimp only [A0, P0]
          rw [List.map_append]
          rfl
        have hlen : A.st.pcs.length = A.pcs.length := List.length_map _
        refine ifb (fun hh => ?_) (fun hh => ?_)
        · repeat tb_start
          let P2 : APc := { P1 with s := { P1.s with state := "made" } }
          refine sfdP (P := P1) S5 hP1 cI d2 P2 ⟨rfl, rfl, rfl, rfl, rfl⟩ rfl fun H6 S6 => ?_
          repeat tb_start
          refine new_tup S6 (by show 2 ≤ sizeLine; decide) fun t B7 H7 e7 ht S7 => ?_
          repeat tb_start
          refine v_note (A := { A1 with pcs := A1.pcs.set A.pcs.length P2 }) (.begin_ z) S7 (by rw [sizeLine_eq]; show A1.nv.length < _; omega) fun H8 S8 => ?_
          repeat tb_start
          refine hfin { A1 with pcs := A1.pcs.set A.pcs.length P2 } rfl q2 q3 q5 q6 q4 q7 (by show A1.lots.length + (A1.pcs.set _ _).length = _; rw [List.length_set, hnp, g1.nl]; rfl) B7 H8 t _ (e04.trans (e5.trans e7)) ht S8 ?_
          unfold Fl.begin_
          dsimp only
          rw [hlen, ← hst0, ← hst1, if_pos hh, modify_some (x := P1.s) (by show (A1.pcs.map (·.s))[_]? = _; rw [List.getElem?_map, hP1]; rfl)]
          unfold AFl.st
          dsimp only
          rw [List.map_set]
        · repeat tb_start
          refine new_tup S5 (by show 2 ≤ sizeLine; decide) fun t B7 H7 e7 ht S7 => ?_
          repeat tb_start
          refine v_note (A := A1) (.begin_ z) S7 (by rw [sizeLine_eq]; show A1.nv.length < _; omega) fun H8 S8 => ?_
          repeat tb_start
          refine hfin A1 rfl q2 q3 q5 q6 q4 q7 (by rw [hnp, g1.nl]; rfl) B7 H8 t _ (e04.trans (e5.trans e7)) ht S8 ?_
          unfold Fl.begin_
          dsimp only
          rw [hlen, ← hst0, ← hst1, if_neg (by rw [hh]; decide)]
          rfl
end
end LW

namespace LW
open PySem PySem.Spec PyProof.Rows L2 WK PM
abbrev s_Floor_at_hand : Stmt := inClass (topS 35) 18
theorem sc_Floor_at_hand : FnScope ["self", "part", "lot", "piece"] ["self", "part"] (defScope s_Floor_at_hand) := ⟨rfl, rfl, rfl, by decide +kernel, rfl, by decide +kernel, by decide +kernel⟩
abbrev s_paid : Stmt := topS 37
theorem sc_paid : FnScope ["floor"] ["floor"] (defScope s_paid) := ⟨rfl, rfl, rfl, by decide +kernel, rfl, by decide +kernel, by decide +kernel⟩
abbrev s_cost : Stmt := topS 38
theorem sc_cost : FnScope ["floor", "number"] ["floor", "number"] (defScope s_cost) := ⟨rfl, rfl, rfl, by decide +kernel, rfl, by decide +kernel, by decide +kernel⟩
theorem zipIdx_count {α : Type} (p : α → Bool) : ∀ (l : List α) (n : Nat), ((l.zipIdx n).filter fun x => p x.1).length = (l.filter p).length
  | [], n => rfl
  | a :: l, n => by
    rw [List.zipIdx_cons, List.filter_cons, List.filter_cons]
    by_cases h : p a = true
    · rw [if_pos h, if_pos h, List.length_cons, List.length_cons, zipIdx_count p l]
    · rw [if_neg h, if_neg h, zipIdx_count p l]
/-- how many are at hand -/
def handOf (s : Fl) (z : Str) : Int := if isBought s.rs z = true then ((s.lots.filter fun x => decide (x.part = z)).map (·.left)).sum else (stockOf s.pcs z).length
def spAtHand (K : PySem.W.Frag) (CP CF CL CI : Addr) : Sp := fun vs H Q _ => ∃ (B : Hp) (A : AFl) (z : Str) (r : PRow), vs = [.ref A.f, .str z] ∧ FS K CP CF CL CI B H A ∧ rowOf A.rs z = some r ∧ LookQ K CF CL CI B H A (Q (.int (handOf A.st z)))
def spPaid (CF : Addr) : Sp := fun vs H Q _ => ∃ (A : AFl), vs = [.ref A.f] ∧ H A.f = some (.ins CF A.dx (flF A)) ∧ Q (.int A.spent) H
def spCost (K : PySem.W.Frag) (CF CL CI : Addr) : Sp := fun vs H Q _ => ∃ (B : Hp) (A : AFl) (k : Nat) (P : APc), vs = [.ref A.f, .int (k : Int)] ∧ Ok ⟨B, H, (FL CF CL CI A).map (·.1)⟩ B (FL CF CL CI A) H ∧ A.pcs.length ≤ 10000 ∧ A.pcs[k]? = some P ∧ P.s.state ∈ allStates ∧ LookQ K CF CL CI B H A (Q (.int P.s.cost))
section
variable {P : Program} {w : World} {K : PySem.W.Frag} {mg : Str → Option Value} {base : Heap}
theorem ok_paid {f CP CF CL CI : Addr} {fd : FuncData} (F : Fun K "paid" "paid" s_paid f fd) (fk : FlK K CP CF CL CI) : FnOk P w K mg base CX0 1 f fd ["floor"] (spPaid CF) := by
  obtain ⟨cP, cF, cL, cI, a1, a2, b1, b2, b3, b4, b5, b6, b7, c1, c2, c3, d1, d2, d3, d4, d5, d6, d7, d8⟩ := fk
  refine F.ok sc_paid (fun vs H Q E h => ?_) (fun cdv A outer s H vs Q E hr h => ?_)
  · obtain ⟨A, rfl, _⟩ := h
    rfl
  · obtain ⟨A, rfl, hF, k⟩ := h
    refine with_al (P := P) (w := w) (K := K) hr (fun al => ?_)
    refine ⟨_, (pss_one (ps_ret (pe_fldU K (pv 0) rfl))), ?_⟩
    repeat tb_start
    exact k
theorem ok_cost {f CP CF CL CI : Addr} {fd : FuncData} (F : Fun K "cost" "cost" s_cost f fd) (G_state_of : MtG P w K mg base 2 CF "state_of" ["self", "number"] (spStateOf K CP CF CL CI)) (fk : FlK K CP CF CL CI) : FnOk P w K mg base CX0 3 f fd ["floor", "number"] (spCost K CF CL CI) := by
  obtain ⟨cP, cF, cL, cI, a1, a2, b1, b2, b3, b4, b5, b6, b7, c1, c2, c3, d1, d2, d3, d4, d5, d6, d7, d8⟩ := fk
  refine F.ok sc_cost (fun vs H Q E h => ?_) (fun cdv A outer s H vs Q E hr h => ?_)
  · obtain ⟨B, A, k, Pc, rfl, _⟩ := h
    rfl
  · obtain ⟨B, A, k, Pc, rfl, S, hfew, hP, hst, kk⟩ := h
    have S0 := S.nil1
    have hx0 : H A.f = some (.ins CF A.dx (flF A)) := S0.mem mF
    refine with_al (P := P) (w := w) (K := K) hr (fun al => ?_)
    refine ⟨_, (pss_cons (ps_expr (pe_mth G_state_of (hr.mono (by first | decide | omega)) (pv 0) (pa_cons (pv 1) pa_nil))) (pss_one (ps_ret (pe_fldU K (pe_ix (ixU al) (pe_fldU K (pv 0) rfl) (pv 1) (fun _ _ => rfl)) rfl)))), ?_⟩
    repeat tb_start
    refine ⟨B, A, k, Pc, rfl, S0.nil2, hfew, hP, hst, fun B1 H1 e1 T1 => ?_⟩
    have S1 : Ok ⟨B, H, (FL CF CL CI A).map (·.1)⟩ B1 (FL CF CL CI A ++ []) H1 := T1.nil1
    repeat tb_start
    refine v_ixL (.inl (.inl (show H1 A.pa = _ by kts_caught))) (atI_nat (by rw [List.getElem?_map, hP]; rfl)) ?_
    have hx : H1 Pc.a = some (.ins CI Pc.dx (pcF Pc)) := S1.flPc hP
    repeat tb_start
    exact kk B1 H1 e1 S1.nil2
theorem ok_at_hand {f CP CF CL CI : Addr} {fd : FuncData} (F : Fun K "at_hand" "Floor.at_hand" s_Floor_at_hand f fd) (G_need_part : MtG P w K mg base 1 CP "need_part" ["self", "name"] (spNeedPart K CP)) (G_is_bought : MtG P w K mg base 2 CP "is_bought" ["self", "name"] (spIsBought K CP)) (fk : FlK K CP CF CL CI) (n_len : mg "len" = none) (n_sum : mg "sum" = none) (c_STOCK : GlS mg "STOCK" "stock") : FnOk P w K mg base CX0 3 f fd ["self", "part"] (spAtHand K CP CF CL CI) := by
  obtain ⟨cP, cF, cL, cI, a1, a2, b1, b2, b3, b4, b5, b6, b7, c1, c2, c3, d1, d2, d3, d4, d5, d6, d7, d8⟩ := fk
  refine F.ok sc_Floor_at_hand (fun vs H Q E h => ?_) (fun cdv A outer s H vs Q E hr h => ?_)
  · obtain ⟨B, A, z, r, rfl, _⟩ := h
    rfl
  · obtain ⟨B, A, z, r, rfl, ⟨S, fb, hfew⟩, hrow, kk⟩ := h
    have hfew2 := fb.few
    have S0 := S.nil1
    have bk := fb.book
    obtain ⟨bdx, ba, bl, rkv, lkv, hb1, hb2, hb3, RK, LK⟩ := id bk
    refine with_al (P := P) (w := w) (K := K) hr (fun al => ?_)
    refine ⟨_, (pss_cons (ps_expr (pe_mth G_need_part (hr.mono (by first | decide | omega)) (pe_fldU K (pv 0) rfl) (pa_cons (pv 1) pa_nil))) (pss_cons (ps_if (pt_val (pe_mth G_is_bought (hr.mono (by first | decide | omega)) (pe_fldU K (pv 0) rfl) (pa_cons (pv 1) pa_nil))) (pss_one (ps_ret (pe_callB (callU al) (by rfl) n_sum b_sum (pa_cons (pe_lc (own := [("lot", 2)]) al.calm sc_Floor_at_hand.nd (pi_val al (pe_fldU K (pv 0) rfl)) (blkOk_by (own := [("lot", 2)]) (N := ["self", "part", "lot", "piece"]) (sc := (defScope s_Floor_at_hand)) (by decide +kernel)) (fun _ _ _ _ _ => (pg_name (i := 2) sc_Floor_at_hand.nd rfl (by first | exact Or.inl rfl | exact Or.inr rfl))) (fun _ _ _ _ _ => pts_one (pt_cmpR (opU al) (pe_fldU K (pv 2) rfl) (pv 1) (nomark _))) (fun _ _ _ _ _ => (pe_fldU K (pv 2) rfl))) pa_nil)))) pss_nil) (pss_one (ps_ret (pe_callB (callU al) (by rfl) n_len b_len (pa_cons (pe_lc (own := [("piece", 3)]) al.calm sc_Floor_at_hand.nd (pi_val al (pe_fldU K (pv 0) rfl)) (blkOk_by (own := [("piece", 3)]) (N := ["self", "part", "lot", "piece"]) (sc := (defScope s_Floor_at_hand)) (by decide +kernel)) (fun _ _ _ _ _ => (pg_name (i := 3) sc_Floor_at_hand.nd rfl (by first | exact Or.inl rfl | exact Or.inr rfl))) (fun _ _ _ _ _ => pts_one (PW.pt (pw_and (pt_cmpR (opU al) (pe_fldU K (pv 3) rfl) (pv 1) (nomark _)) (pw_and1 (pt_cmpR (opU al) (pe_fldU K (pv 3) rfl) (pe_gs c_STOCK rfl) (nomark _)))))) (fun _ _ _ _ _ => (pv 3))) pa_nil)))))), ?_⟩
    repeat tb_start
    refine ⟨B, A.bk, A.rs, r, z, rfl, S0.ex, bk, hrow, ?_⟩
    repeat tb_start
    refine ⟨B, A.bk, A.rs, r, z, rfl, S0.ex, bk, hrow, fun B1 H1 T1 => ?_⟩
    have S1 := S0.callP T1
    have e1 := T1.ex0
    have hib : isBought A.rs z = (r.needs.isEmpty && r.steps.isEmpty) := by unfold isBought; rw [hrow]
    unfold handOf AFl.st at kk
    dsimp only at kk
    rw [hib] at kk
    repeat tb_start
    refine ifb (fun hh => ?_) (fun hh => ?_)
    · rw [if_pos hh] at kk
      repeat tb_start
      refine ItU.list (S1.sqMem mFl) ?_
      refine lcPure K (src_lstO (fun x : ALot => V.ref x.a) A.lots) S1 (fun B1 D acc e => .tail _ mFl) (fun y => decide (y.s.part = z)) (fun y => .int y.s.left) (by omega) ?_ ?_
      · rintro y xv B1 D acc H1 C Cs hy e1 S1 rfl kC kS
        obtain ⟨i, hi⟩ := List.getElem?_of_mem hy
        have hx : H1 y.a = some (.ins CL y.dx (ltF y.s)) := S1.mem (.tail _ (mFlot hi))
        repeat tb_start
        refine ⟨rfl, ?_⟩
        repeat tb_start
        refine ifd (fun h1 => ?_) (fun h1 => ?_)
        · repeat tb_start
          exact kC _ _ _ (decide_eq_true h1) (Ex.refl _) S1 (.int _)
        · exact kS _ _ (decide_eq_false h1) (Ex.refl _) S1
      · intro D acc B2 H2 e2 S2 hacc
        have hso : ((A.lots.filter fun y => decide (y.s.part = z)).map fun y => PyData.int y.s.left) = (((A.lots.map (·.s)).filter fun x => decide (x.part = z)).map (·.left)).map PyData.int := by
          rw [List.filter_map, List.map_map, List.map_map]
          rfl
        rw [hso] at hacc
        obtain ⟨B3, e3, S3, hD⟩ := S2.toData hacc
        repeat tb_start
        refine v_sumD S3 hD ?_
        repeat tb_start
        exact kk B3 H2 (by nest_room) S3.nil2
    · rw [if_neg (by rw [hh]; decide)] at kk
      repeat tb_start
      refine ItU.list (S1.sqMem mFp) ?_
      refine lcCount (src_lstO (fun x : APc => V.ref x.a) A.pcs) S1 (fun B1 D acc e => .tail _ mFp) (fun y => decide (y.s.part = z) && decide (y.s.state = sStock)) (by omega) ?_ ?_
      · rintro y xv B1 D acc H1 C Cs hy e1 S1 rfl kC kS
        obtain ⟨i, hi⟩ := List.getElem?_of_mem hy
        have hx : H1 y.a = some (.ins CI y.dx (pcF y)) := S1.mem (.tail _ (mFpc hi))
        repeat tb_start
        refine ⟨rfl, ?_⟩
        repeat tb_start
        refine ifd (fun h1 => ?_) (fun h1 => ?_)
        · repeat tb_start
          refine ifd (fun h2 => ?_) (fun h2 => ?_)
          · repeat tb_start
            exact kC _ _ _ (by rw [decide_eq_true h1, decide_eq_true h2]; rfl) (Ex.refl _) S1
          · exact kS _ _ (by rw [decide_eq_false h2, Bool.and_false]) (Ex.refl _) S1
        · exact kS _ _ (by rw [decide_eq_false h1, Bool.false_and]) (Ex.refl _) S1
      · intro D acc B2 H2 e2 S2 hacc
        have hso : (stockOf (A.pcs.map (·.s)) z).length = acc.length := by
          unfold stockOf
          rw [hacc, List.length_map, List.zipIdx_map, List.filter_map, List.length_map]
          exact zipIdx_count (fun (y : APc) => decide (y.s.part = z) && decide (y.s.state = sStock)) A.pcs 0
        rw [hso] at kk
        repeat tb_start
        exact kk B2 H2 (by nest_room) S2.drop.nil2
end
end LW

namespace LW
open PySem PySem.Spec PyProof.Rows L2 WK PM
abbrev s_law : Stmt := topS 43
theorem sc_law : FnScope ["_law_script", "_law_h", "_law_turn", "_law_steps", "_law_k", "_law_rates", "_law_handed", "_law_floor", "_law_state", "_law_at", "_law_due", "_law_time", "_law_machine", "_law_minutes", "_law_good"] ["_law_script"] (defScope s_law) := ⟨rfl, rfl, rfl, by decide +kernel, rfl, by decide +kernel, by decide +kernel⟩
theorem right_ok {F : Ent} {B H : Hp} : ∀ {L1 L2 : Led}, Ok F B (L1 ++ L2) H → Ok F B L2 H
  | [], _, S => S
  | _ :: L1, _, S => right_ok (L1 := L1) (Ok.drop S)
/-- a draw, wherever the state stands in the ledger -/
theorem nextQ {F : Ent} {B H : Hp} {Q : VK} {p q : Addr} {m : Int} {cs : List Int} {kk many : Int} (L1 L2 : Led) (S : Ok F B (L1 ++ (hL p q m cs kk ++ L2)) H) (hS : HS cs kk) (h0 : 0 < many) (h1 : many < 1073741824)
    (k : ∀ r m' cs' kk' H', 0 ≤ r → r < many → HS cs' kk' → Ok F B (L1 ++ (hL p q m' cs' kk' ++ L2)) H' → Q (.int r) H') : spNext [.ref p, .int many] H Q E0 := by
  have S1 : Ok F B (hL p q m cs kk ++ (L1 ++ L2)) H := S.perm (by
    rw [← List.append_assoc, ← List.append_assoc]
    exact List.Perm.append_right _ List.perm_append_comm)
  refine ⟨B, p, q, m, cs, kk, many, rfl, S1.sub (L1 := hL p q m cs kk), hS, h0, h1, fun r m' cs' kk' H' r0 r1 hS' T => k r m' cs' kk' H' r0 r1 hS' ?_⟩
  have S2 : Ok F B (hL p q m' cs' kk' ++ (L1 ++ L2)) H' := S1.call (L1 := hL p q m cs kk) (L2 := L1 ++ L2) T
  exact S2.perm (by
    rw [← List.append_assoc, ← List.append_assoc]
    exact List.Perm.append_right _ List.perm_append_comm)
def spLaw (K : PySem.W.Frag) : Sp := fun vs H Q _ => ∃ (a : Addr) (ns : List Int), vs = [.ref a] ∧ SqL K H a (ns.map V.int) ∧ ns.length ≤ 63 ∧ ∀ H', Q (.bl true) H'
section
variable {P : Program} {w : World} {K : PySem.W.Frag} {mg : Str → Option Value} {base : Heap}
theorem ok_law {f CP CF CL CI : Addr} {fd : FuncData} (F : Fun K "law" "law" s_law f fd) (G__law_mix : FnG P w K mg base 1 "_law_mix" ["_law_script", "_law_seed"] (spMix K)) (G__law_next : FnG P w K mg base 1 "_law_next" ["_law_h", "_law_many"] spNext)
    (G_Floor : MkG P w K mg base 5 CF "Floor" ["self", "parts", "rates"] (spFInit K CP CF CL CI)) (G_begin : MtG P w K mg base 3 CF "begin" ["self", "part"] (spBegin K CP CF CL CI)) (G_work : MtG P w K mg base 2 CF "work" ["self", "number"] (spWork K CP CF CL CI)) (G_test : MtG P w K mg base 2 CF "test" ["self", "number", "good"] (spTest K CP CF CL CI)) (G_rework : MtG P w K mg base 2 CF "rework" ["self", "number", "at"] (spRework K CP CF CL CI)) (G_state_of : MtG P w K mg base 2 CF "state_of" ["self", "number"] (spStateOf K CP CF CL CI)) (G_at_hand : MtG P w K mg base 3 CF "at_hand" ["self", "part"] (spAtHand K CP CF CL CI))
    (G_cost : FnG P w K mg base 3 "cost" ["floor", "number"] (spCost K CF CL CI)) (G_paid : FnG P w K mg base 1 "paid" ["floor"] (spPaid CF))
    (G__law_alike : FnG P w K mg base 6 "_law_alike" ["_law_found", "_law_due"] (spAl K 6))
    (n_range : mg "range" = none) (n_tuple : mg "tuple" = none) (n_list : mg "list" = none) (n_len : mg "len" = none) (n_int : mg "int" = none) : FnOk P w K mg base CX0 15 f fd ["_law_script"] (spLaw K) := by
  refine F.ok sc_law (fun vs H Q E h => ?_) (fun cdv A outer s H vs Q E hr h => ?_)
  · obtain ⟨a, ns, rfl, _⟩ := h
    rfl
  · obtain ⟨a, ns, rfl, hq, hlen, k⟩ := h
    have S : Ok ⟨H, H, []⟩ H [] H := Ok.start0 (Ex.refl H)
    refine with_al (P := P) (w := w) (K := K) hr (fun al => ?_)
    refine ⟨_, (pss_cons (ps_asg (pe_fn G__law_mix (hr.mono (by first | decide | omega)) rfl (pa_cons (pv 0) (pa_cons pe_int pa_nil))) (pg_name (i := 1) sc_law.nd rfl (by first | exact Or.inl rfl | exact Or.inr rfl))) (pss_cons (ps_for PassesOwn.never rfl (pi_range1 (by rfl) n_range (pa_cons pe_int pa_nil)) (pg_name (i := 2) sc_law.nd rfl (by first | exact Or.inl rfl | exact Or.inr rfl)) (pss_cons (ps_asg (pe_callTy (callU al) (by rfl) n_tuple b_tuple (pa_cons (pe_lc (own := [("_law_k", 4)]) al.calm sc_law.nd (pi_range1 (by rfl) n_range (pa_cons (pe_op (opU al) pe_int (pe_fn G__law_next (hr.mono (by first | decide | omega)) rfl (pa_cons (pv 1) (pa_cons pe_int pa_nil)))) pa_nil)) (blkOk_by (own := [("_law_k", 4)]) (N := ["_law_script", "_law_h", "_law_turn", "_law_steps", "_law_k", "_law_rates", "_law_handed", "_law_floor", "_law_state", "_law_at", "_law_due", "_law_time", "_law_machine", "_law_minutes", "_law_good"]) (sc := (defScope s_law)) (by decide +kernel)) (fun _ _ _ _ _ => (pg_name (i := 4) sc_law.nd rfl (by first | exact Or.inl rfl | exact Or.inr rfl))) (fun _ _ _ _ _ => pts_nil) (fun _ _ _ _ _ => (pe_tup (pa_cons (pe_fn G__law_next (hr.mono (by first | decide | omega)) rfl (pa_cons (pv 1) (pa_cons pe_int pa_nil))) (pa_cons (pe_op (opU al) pe_int (pe_fn G__law_next (hr.mono (by first | decide | omega)) rfl (pa_cons (pv 1) (pa_cons pe_int pa_nil)))) pa_nil))))) pa_nil)) (pg_name (i := 3) sc_law.nd rfl (by first | exact Or.inl rfl | exact Or.inr rfl))) (pss_cons (ps_setLc (i := 5) (own := [("_law_k", 4)]) al.calm sc_law.nd rfl rfl (sw_true rfl rfl rfl (by decide +kernel)) (pi_range1 (by rfl) n_range (pa_cons pe_int pa_nil)) (blkOk_by (own := [("_law_k", 4)]) (N := ["_law_script", "_law_h", "_law_turn", "_law_steps", "_law_k", "_law_rates", "_law_handed", "_law_floor", "_law_state", "_law_at", "_law_due", "_law_time", "_law_machine", "_law_minutes", "_law_good"]) (sc := (defScope s_law)) (by decide +kernel)) (fun _ _ _ _ _ => (pg_name (i := 4) sc_law.nd rfl (by first | exact Or.inl rfl | exact Or.inr rfl))) (fun _ _ _ _ _ => pts_nil) (fun _ _ _ _ _ => (pe_fn G__law_next (hr.mono (by first | decide | omega)) rfl (pa_cons (pv 1) (pa_cons pe_int pa_nil))))) (pss_cons (ps_asg (pe_callTy (callU al) (by rfl) n_list b_list (pa_cons (pv 5) pa_nil)) (pg_name (i := 6) sc_law.nd rfl (by first | exact Or.inl rfl | exact Or.inr rfl))) (pss_cons (ps_asg (pe_mk G_Floor (hr.mono (by first | decide | omega)) rfl (pa_cons (pe_lst (pa_cons (pe_tup (pa_cons pe_str (pa_cons (pe_tup pa_nil) (pa_cons (pv 3) (pa_cons pe_int (pa_cons pe_int pa_nil)))))) pa_nil)) (pa_cons (pv 6) pa_nil))) (pg_name (i := 7) sc_law.nd rfl (by first | exact Or.inl rfl | exact Or.inr rfl))) (pss_cons (ps_expr (pe_bm0U K PySem.F.plainAttrs_list PySem.F.slot_list_clear PySem.F.type_list_clear (metU al) (pv 6))) (pss_cons (ps_if (pt_cmpR (opU al) (pe_mth G_begin (hr.mono (by first | decide | omega)) (pv 7) (pa_cons pe_str pa_nil)) pe_int (nomark _)) (pss_one (ps_ret pe_bl)) pss_nil) (pss_cons (ps_asg (pe_tup (pa_cons pe_str (pa_cons pe_int (pa_cons pe_int pa_nil)))) (pg_tupU (n := 3) K (pgs_cons (pg_name (i := 8) sc_law.nd rfl (by first | exact Or.inl rfl | exact Or.inr rfl)) (pgs_cons (pg_name (i := 9) sc_law.nd rfl (by first | exact Or.inl rfl | exact Or.inr rfl)) (pgs_cons (pg_name (i := 10) sc_law.nd rfl (by first | exact Or.inl rfl | exact Or.inr rfl)) pgs_nil))))) (pss_one (ps_for PassesOwn.never rfl (pi_range1 (by rfl) n_range (pa_cons (pe_fn G__law_next (hr.mono (by first | decide | omega)) rfl (pa_cons (pv 1) (pa_cons pe_int pa_nil))) pa_nil)) (pg_name (i := 11) sc_law.nd rfl (by first | exact Or.inl rfl | exact Or.inr rfl)) (pss_cons (ps_cut (ps_if (pt_cmpR (opU al) (pv 8) pe_str (nomark _)) (pss_cons (ps_asg (pe_ix (ixU al) (pv 3) (pv 9) (fun _ _ => rfl)) (pg_tupU (n := 2) K (pgs_cons (pg_name (i := 12) sc_law.nd rfl (by first | exact Or.inl rfl | exact Or.inr rfl)) (pgs_cons (pg_name (i := 13) sc_law.nd rfl (by first | exact Or.inl rfl | exact Or.inr rfl)) pgs_nil)))) (pss_cons (ps_if (pt_not (pt_val (pe_fn G__law_alike (hr.mono (by first | decide | omega)) rfl (pa_cons (pe_mth G_work (hr.mono (by first | decide | omega)) (pv 7) (pa_cons pe_int pa_nil)) (pa_cons (pv 13) pa_nil))))) (pss_one (ps_ret pe_bl)) pss_nil) (pss_cons (ps_par (i := 9) (j := 10) al.calm sc_law.nd rfl rfl (by decide) rfl rfl (pa_cons (pe_op (opU al) (pv 9) pe_int) (pa_cons (pe_op (opU al) (pv 10) (pe_op (opU al) (pv 13) (pe_ix (ixU al) (pv 5) (pv 12) (fun _ _ => rfl)))) pa_nil)) (by rfl)) (pss_one (ps_asg (pe_ifExp (pt_cmpR (opU al) (pv 9) (pe_callB (callU al) (by rfl) n_len b_len (pa_cons (pv 3) pa_nil)) (nomark _)) pe_str pe_str) (pg_name (i := 8) sc_law.nd rfl (by first | exact Or.inl rfl | exact Or.inr rfl))))))) (pss_one (ps_if (pt_cmpR (opU al) (pv 8) (pe_tup (pa_cons pe_str (pa_cons pe_str pa_nil))) rfl) (pss_cons (ps_asg (pe_cmpR (opU al) (pe_fn G__law_next (hr.mono (by first | decide | omega)) rfl (pa_cons (pv 1) (pa_cons pe_int pa_nil))) pe_int (nomark _)) (pg_name (i := 14) sc_law.nd rfl (by first | exact Or.inl rfl | exact Or.inr rfl))) (pss_cons (ps_expr (pe_mth G_test (hr.mono (by first | decide | omega)) (pv 7) (pa_cons pe_int (pa_cons (pv 14) pa_nil)))) (pss_one (ps_asg (pe_ifExp (pt_val (pv 14)) pe_str pe_str) (pg_name (i := 8) sc_law.nd rfl (by first | exact Or.inl rfl | exact Or.inr rfl)))))) (pss_cons (ps_asg (pe_fn G__law_next (hr.mono (by first | decide | omega)) rfl (pa_cons (pv 1) (pa_cons (pe_callB (callU al) (by rfl) n_len b_len (pa_cons (pv 3) pa_nil)) pa_nil))) (pg_name (i := 9) sc_law.nd rfl (by first | exact Or.inl rfl | exact Or.inr rfl))) (pss_cons (ps_expr (pe_mth G_rework (hr.mono (by first | decide | omega)) (pv 7) (pa_cons pe_int (pa_cons (pv 9) pa_nil)))) (pss_one (ps_asg pe_str (pg_name (i := 8) sc_law.nd rfl (by first | exact Or.inl rfl | exact Or.inr rfl)))))))))) (pss_cons (ps_if (PW.pt (pw_or (pt_cmpR (opU al) (pe_mth G_state_of (hr.mono (by first | decide | omega)) (pv 7) (pa_cons pe_int pa_nil)) (pv 8) (nomark _)) (pw_or1 (pt_not (pt_val (pe_fn G__law_alike (hr.mono (by first | decide | omega)) rfl (pa_cons (pe_lst (pa_cons (pe_fn G_cost (hr.mono (by first | decide | omega)) rfl (pa_cons (pv 7) (pa_cons pe_int pa_nil))) (pa_cons (pe_fn G_paid (hr.mono (by first | decide | omega)) rfl (pa_cons (pv 7) pa_nil)) pa_nil))) (pa_cons (pe_lst (pa_cons (pv 10) (pa_cons (pv 10) pa_nil))) pa_nil)))))))) (pss_one (ps_ret pe_bl)) pss_nil) (pss_one (ps_if (pt_cmpR (opU al) (pe_mth G_at_hand (hr.mono (by first | decide | omega)) (pv 7) (pa_cons pe_str pa_nil)) (pe_callTy (callU al) (by rfl) n_int b_int (pa_cons (pe_cmpR (opU al) (pv 8) pe_str (nomark _)) pa_nil)) (nomark _)) (pss_one (ps_ret pe_bl)) pss_nil)))))))))))))) (pss_one (ps_ret pe_bl)))), ?_⟩
    repeat tb_start
    refine ⟨H, a, ns, 37, rfl, S.ex, hq, hlen, by decide, by decide, fun m p q B1 H1 _ _ T1 => ?_⟩
    have S1 := S.call (L1 := []) (L2 := []) T1
    repeat tb_start
    refine rngQ (by decide) (by decide) ?_
    refine forDS src_range S1 (fun i σ B1 L1 => (∃ yy2 yy3 yy4 yy5 yy6 yy7 yy8 yy9 yy10 yy11 yy12 yy13 yy14, σ = [some (.ref a), some (.ref p), yy2, yy3, yy4, yy5, yy6, yy7, yy8, yy9, yy10, yy11, yy12, yy13, yy14]) ∧ ∃ m cs kk, HS cs kk ∧ L1 = hL p q m cs kk) (fun _ _ _ _ _ _ => True.intro) ?_ ?_ ?_
    · exact ⟨⟨_, _, _, _, _, _, _, _, _, _, _, _, _, rfl⟩, _, _, _, ⟨hlen, by decide⟩, rfl⟩
    · rintro i i2 x σ B0 B2 L1 H2 hget ⟨⟨_, _, _, _, _, _, _, _, _, _, _, _, _, rfl⟩, m, cs, kk, hS, rfl⟩ e1 e2 S2 rfl
      repeat tb_start
      refine nextQ [] [] S2 hS (by decide) (by decide) fun r3 m3 cs3 kk3 H3 q1 q2 hS3 S3 => ?_
      repeat tb_start
      refine rngQ (by omega) (by omega) ?_
      refine lcD src_range (S3 : Ok ⟨H, H, []⟩ B2 (hL p q m3 cs3 kk3) H3) (fun j acc2 B3 L2 => ∃ (st : List (Int × Int)) (m : Int) (cs : List Int) (kk : Int), L2 = hL p q m cs kk ∧ Ex B2 B3 ∧ HS cs kk ∧ DpAll K B3 acc2 (st.map encStep) ∧ st.length = j ∧ ∀ x ∈ st, (0 ≤ x.1 ∧ x.1 < 6) ∧ 1 ≤ x.2 ∧ x.2 ≤ 99) ?_ ?_ ?_ ?_
      · exact ⟨[], _, _, _, rfl, Ex.refl _, hS3, .nil, rfl, fun _ h => nomatch h⟩
      · exact fun _ _ _ _ _ _ _ => True.intro
      · rintro j j2 xv acc2 B3 B4 L2 D2 H4 hgr ⟨st, m, cs, kk, rfl, e3, hS4, hacc2, hl2, hst⟩ e4 S4 rfl
        have hjl : j < 5 := by
          have h1 := (List.getElem?_eq_some_iff.mp hgr).1
          rw [List.length_range] at h1
          omega
        repeat tb_start
        refine ⟨rfl, ?_⟩
        repeat tb_start
        refine nextQ [(D2, .lst acc2)] [] S4 hS4 (by decide) (by decide) fun r5 m5 cs5 kk5 H5 q3 q4 hS5 S5 => ?_
        repeat tb_start
        refine nextQ [(D2, .lst acc2)] [] S5 hS5 (by decide) (by decide) fun r6 m6 cs6 kk6 H6 q5 q6 hS6 S6 => ?_
        repeat tb_start
        refine new_tupD (K := K) S6 (.cons (.int _) (.cons (.int _) .nil)) (by simp) fun t B7 H7 e7 S7 ht => ?_
        have hl3 := hacc2.length
        rw [List.length_map] at hl3
        refine Acc.mk S7 (by rw [sizeLine_eq]; omega) ⟨st ++ [(r5, 1 + r6)], _, _, _, rfl, e3.trans (e4.trans e7), hS6, ?_, ?_, ?_⟩
        · rw [List.map_append]
          exact ((hacc2.up e4).up e7).append (.cons ht .nil)
        · rw [List.length_append, hl2]; rfl
        · intro y hy
          rcases List.mem_append.mp hy with hy | hy
          · exact hst y hy
          · rw [List.mem_singleton] at hy
            subst hy
            show (0 ≤ r5 ∧ r5 < 6) ∧ 1 ≤ 1 + r6 ∧ 1 + r6 ≤ 99
            omega
      · rintro acc2 B3 L2 D2 H4 ⟨st, m, cs, kk, rfl, e3, hS4, hacc2, hl2, hst⟩ S4
        rw [List.length_range] at hl2
        obtain ⟨B9, e9, S9, hst9⟩ := S4.toData hacc2
        have hst5 : st.length ≤ 5 := by omega
        have hst1 : st ≠ [] := fun z => by rw [z] at hl2; simp at hl2; omega
        repeat tb_start
        refine v_tupD S9 hst9 fun vs B10 H10 e10 S10 hvs => ?_
        repeat tb_start
        refine rngQ (by decide) (by decide) ?_
        refine lcD src_range S10 (fun j acc2 B3 L2 => ∃ (rt : List Int) (m : Int) (cs : List Int) (kk : Int), L2 = hL p q m cs kk ∧ Ex B10 B3 ∧ HS cs kk ∧ acc2 = rt.map V.int ∧ rt.length = j ∧ ∀ x ∈ rt, 0 ≤ x ∧ x ≤ 99) ?_ ?_ ?_ ?_
        · exact ⟨[], _, _, _, rfl, Ex.refl _, hS4, rfl, rfl, fun _ h => nomatch h⟩
        · exact fun _ _ _ _ _ _ _ => True.intro
        · rintro j j2 xv acc3 B11 B12 L2 D3 H11 hgr ⟨rt, m, cs, kk, rfl, e3', hS5, rfl, hl3, hrt⟩ e4' S11 rfl
          have hjl : j < 6 := by
            have h1 := (List.getElem?_eq_some_iff.mp hgr).1
            rw [List.length_range] at h1
            exact h1
          repeat tb_start
          refine ⟨rfl, ?_⟩
          repeat tb_start
          refine nextQ [(D3, .lst (rt.map V.int))] [] S11 hS5 (by decide) (by decide) fun r5 m5 cs5 kk5 H12 q3 q4 hS6 S12 => ?_
          refine Acc.mk S12 (by rw [sizeLine_eq, List.length_map]; omega) ⟨rt ++ [r5], _, _, _, rfl, e3'.trans e4', hS6, ?_, ?_, ?_⟩
          · rw [List.map_append]; rfl
          · rw [List.length_append, hl3]; rfl
          · intro y hy
            rcases List.mem_append.mp hy with hy | hy
            · exact hrt y hy
            · rw [List.mem_singleton] at hy
              subst hy
              omega
        · rintro acc3 B11 L2 D3 H11 ⟨rt, m5, cs5, kk5, rfl, e11, hS5, rfl, hl3, hrt⟩ S11
          rw [List.length_range] at hl3
          obtain ⟨B12, e12, S12, hrt12⟩ := S11.toData (K := K) (ds := rt.map PyData.int) (dpInts rt)
          repeat tb_start
          have hq3 : SqL K B12 D3 (rt.map V.int) := by
            obtain ⟨_, xs, e, hq, ha⟩ := Dp.lst_inv hrt12
            cases e
            rwa [ha.ints] at hq
          refine v_listOf S12 (.inl (S12.sqB hq3)) fun hd H13 S13 => ?_
          repeat tb_start
          refine new_tupD (K := K) S13 .nil (by simp) fun t14 B14 H14 e14 S14 h14 => ?_
          repeat tb_start
          refine new_tupD (K := K) S14 (ds := [.str "a", .tuple [], .tuple (st.map encStep), .int 1, .int 0]) (.cons (.str _) (.cons h14 (.cons (hvs.up (e11.trans (e12.trans e14))) (.cons (.int _) (.cons (.int _) .nil))))) (by simp) fun t15 B15 H15 e15 S15 h15 => ?_
          repeat tb_start
          refine new_lst S15 (by show 1 ≤ sizeLine; decide) fun D16 H16 S16 => ?_
          obtain ⟨B17, e17, S17, d17⟩ := S16.toData (K := K) (ds := [encRow (row13 st)]) (.cons h15 .nil)
          repeat tb_start
          refine mkQ S17 fun fl dx H18 S18 => ?_
          have hd1 : H18 hd = some (.lst (rt.map V.int)) := S18.mem (.tail _ (.head _))
          have hd2 : hd ∉ [fl] := fun z => by
            have := S18.nd
            rw [List.map_cons, List.nodup_cons] at this
            rw [List.mem_singleton] at z
            exact this.1 (z ▸ .head _)
          refine ⟨B17, fl, dx, _, _, [row13 st], rt, rfl, S18.sub (L1 := [_]), .inl d17, good13 hst5 hst, Stays.ofCell hd1 hd2, hl3, hrt, fun A0 B19 H19 e19 T19 fb0 hst0 hf => retQ ?_⟩
          subst hf
          have S19 : Ok ⟨H, H, []⟩ B19 (FL CF CL CI A0 ++ ((hd, .lst (rt.map V.int)) :: hL p q m5 cs5 kk5)) H19 := S18.call (L1 := [_]) T19
          have S20 : Ok ⟨H, H, []⟩ B19 ((hd, .lst (rt.map V.int)) :: (FL CF CL CI A0 ++ hL p q m5 cs5 kk5)) H19 := S19.perm List.perm_middle
          repeat tb_start
          refine v_clearN 0 S20 rfl fun H21 S21 => ?_
          have S22 : Ok ⟨H, H, []⟩ B19 (FL CF CL CI A0 ++ hL p q m5 cs5 kk5) H21 := S21.drop
          have hvs19 : Dp K B19 (.ref vs) (.tuple (st.map encStep)) := hvs.up (e11.trans (e12.trans (e14.trans (e15.trans (e17.trans e19)))))
          have hrt19 : SqL K B19 D3 (rt.map V.int) := (e14.trans (e15.trans (e17.trans e19))).sqL hq3
          have eB19 : Ex H B19 := S22.ex0
          clear S21 S20 S19 S18 S17 S16 S15 S14 S13 S12 S11 S10 S9 S4 S3 S2 T19 hacc2 hst9 hvs hrt12 hd1
          have hrow0 : rowOf A0.rs "a" = some (row13 st) := by rw [show A0.rs = [row13 st] from congrArg Fl.rs hst0]; rfl
          have hbk0 : A0.book = [] := congrArg Fl.book hst0
          have hpc0 : A0.pcs.length = 0 := by
            have := congrArg (fun s => s.pcs.length) hst0
            exact (List.length_map _).symm.trans this
          have hxf : H21 A0.f = some (.ins CF A0.dx (flF A0)) := S22.mem mF
          repeat tb_start
          refine ⟨B19, A0, "a", row13 st, [], rfl, ⟨S22.sub, fb0, by rw [hbk0]; decide⟩, hrow0, by cases st with | nil => exact absurd rfl hst1 | cons => rfl, rfl, (fun i x hs h => by cases h), ⟨(fun k h => nomatch h), (fun j m h => nomatch h), .nil, by decide⟩, fun A1 B23 H23 e23 T23 fb1 hst2 hf1 => ?_⟩
          have S23 : Ok ⟨H, H, []⟩ B23 (FL CF CL CI A1 ++ hL p q m5 cs5 kk5) H23 := S22.call T23
          have K1 : K13 st rt A1.st "making" 0 0 := by rw [hst2, hst0]; exact K13.begin_ hst1
          have hbk1 : A1.book.length ≤ 1 := by
            have e : A1.st.book = [.begin_ "a"] := by rw [hst2, hst0]; rfl
            exact Nat.le_of_eq (congrArg List.length e)
          rw [hpc0]
          repeat tb_start
          refine new_tup S23 (by show 3 ≤ sizeLine; decide) fun t24 B24 H24 e24 ht24 S24 => ?_
          refine r_gtupB S24 ht24 rfl ?_
          show gCons _ _ [.str "making", .int 0, .int 0] _ _ _
          repeat tb_start
          refine nextQ (FL CF CL CI A1) [] S24 hS5 (by decide) (by decide) fun r25 m25 cs25 kk25 H25 q7 q8 hS25 S25 => ?_
          repeat tb_start
          refine rngQ (by omega) (by omega) ?_
          have e124 : Ex B1 B24 := e1.trans (e2.trans (e3.trans (e9.trans (e10.trans (e11.trans (e12.trans (e14.trans (e15.trans (e17.trans (e19.trans (e23.trans e24)))))))))))
          refine forDS src_range (S25 : Ok ⟨H, H, []⟩ B24 (FL CF CL CI A1 ++ hL p q m25 cs25 kk25) H25) (fun i σ B1 L1 => ∃ (z : Str) (at_ due : Int) (A : AFl) (m : Int) (cs : List Int) (kk : Int), (∃ yy2 yy4 yy11 yy12 yy13 yy14, σ = [some (.ref a), some (.ref p), yy2, some (.ref vs), yy4, some (.ref D3), some (.ref hd), some (.ref A0.f), some (.str z), some (.int at_), some (.int due), yy11, yy12, yy13, yy14]) ∧ L1 = FL CF CL CI A ++ hL p q m cs kk ∧ HS cs kk ∧ K13 st rt A.st z at_ due ∧ FB K CP B1 A ∧ A.f = A0.f ∧ A.book.length ≤ 1 + i) (fun _ _ _ _ _ _ => True.intro) ?_ ?_ ?_
          · exact ⟨_, _, _, A1, _, _, _, ⟨_, _, _, _, _, _, rfl⟩, rfl, hS25, K1, fb1.up e24, hf1, hbk1⟩
          · rintro i i3 x σ B25 B26 L1 H26 hget2 ⟨z, at_, due, A, m, cs, kk, ⟨_, _, _, _, _, _, rfl⟩, rfl, hS26, KK, fbA, hfA, hbA⟩ e25 e26 S26 rfl
            have hi40 : i < 40 := by
              have h1 := (List.getElem?_eq_some_iff.mp hget2).1
              rw [List.length_range] at h1
              omega
            replace fbA := fbA.up e26
            have ev : Ex B19 B26 := e23.trans (e24.trans (e25.trans e26))
            have hvs26 := hvs19.up ev
            have hrt26 := ev.sqL hrt19
            obtain ⟨pp, hpp, hpart, hstate, hat, hcost⟩ := KK.pc
            obtain ⟨P0, hP0, rfl⟩ : ∃ P0, A.pcs = [P0] ∧ P0.s = pp := by
              have e : A.pcs.map (·.s) = [pp] := hpp
              match hA : A.pcs, e with
              | [P0], e => exact ⟨P0, rfl, (List.cons.inj e).1⟩
            have hP : A.pcs[0]? = some P0 := by rw [hP0]; rfl
            have hxf : H26 A0.f = some (.ins CF A.dx (flF A)) := hfA ▸ S26.mem mF
            have hrow : rowOf A.rs "a" = some (row13 st) := KK.row
            repeat tb_start
            refine cutS (fun σ' H' => ∃ (z : Str) (at_ due : Int) (A : AFl) (m : Int) (cs : List Int) (kk : Int) (B' : Hp), (∃ yy2 yy4 yy11 yy12 yy13 yy14, σ' = [some (.ref a), some (.ref p), yy2, some (.ref vs), yy4, some (.ref D3), some (.ref hd), some (.ref A0.f), some (.str z), some (.int at_), some (.int due), yy11, yy12, yy13, yy14]) ∧ Ok ⟨H, H, []⟩ B' (FL CF CL CI A ++ hL p q m cs kk) H' ∧ Ex B26 B' ∧ HS cs kk ∧ K13 st rt A.st z at_ due ∧ FB K CP B' A ∧ A.f = A0.f ∧ A.book.length ≤ 2 + i) ?_ ?_
            · repeat tb_start
              refine ifd (fun hz => ?_) (fun hz => ?_)
              · subst hz
                have hzz := KK.z
                have hj : 0 ≤ at_ ∧ at_ < st.length := by
                  rcases hzz with ⟨_, h⟩ | h | h | h
                  · exact h
                  all_goals exact absurd h (by decide)
                obtain ⟨j, rfl⟩ : ∃ j : Nat, at_ = (j : Int) := ⟨at_.toNat, by omega⟩
                have hj2 : j < st.length := by omega
                obtain ⟨⟨mcI, mi⟩, hstep⟩ : ∃ y, st[j]? = some y := ⟨_, List.getElem?_eq_getElem hj2⟩
                obtain ⟨⟨mc0, mc1⟩, mi1, mi2⟩ := hst _ (List.mem_of_getElem? hstep)
                obtain ⟨mc, rfl⟩ : ∃ mc : Nat, mcI = (mc : Int) := ⟨mcI.toNat, by dsimp only at mc0; omega⟩
                dsimp only at mc0 mc1 mi1 mi2
                have hl36 : rt.length = 6 := hl3
                obtain ⟨rate, hrate⟩ : ∃ y, rt[mc]? = some y := ⟨_, List.getElem?_eq_getElem (by omega)⟩
                repeat tb_start
                refine v_ixDT (j := j) S26 hvs26 rfl (by rw [List.getElem?_map, hstep]; rfl) fun u hu => ?_
                refine r_gtupII S26 hu ?_
                repeat tb_start
                refine ⟨B26, A, 0, P0, row13 st, j, mc, mi, rate, by rw [hfA]; rfl, ⟨S26.sub, fbA, by omega⟩, hP, hstate, by rw [hpart]; exact hrow, hat, hstep, by rw [show A.rates = rt from KK.rates]; exact hrate, fun A2 B28 H28 e28 T28 fb2 hst2' hf2 => ?_⟩
                have S28 : Ok ⟨H, H, []⟩ B28 (FL CF CL CI A2 ++ hL p q m cs kk) H28 := S26.call T28
                have K2 := KK.work (c := mi * rate) rfl hpp
                rw [show A.st.work 0 P0.s (mi * rate) st.length = A2.st from hst2'.symm] at K2
                have hbk2 : A2.book.length ≤ 2 + i := by
                  have e : A2.st.book = A.st.book ++ [.work ((0 : Nat) : Int)] := by rw [hst2']; rfl
                  have := congrArg List.length e
                  rw [List.length_append] at this
                  have h3 : A2.book.length = A.book.length + 1 := this
                  omega
                repeat tb_start
                refine ⟨B28, _, _, .int mi, rfl, S28.ex, .int _, .int _, AlOk.int, fun B29 H29 T29 => ?_⟩
                have S29 := S28.callP T29
                have e29 := T29.ex0
                repeat tb_start
                refine v_ixL (S29.sqB ((e28.trans e29).sqL hrt26)) (atI_nat (by rw [List.getElem?_map, hrate]; rfl)) ?_
                repeat tb_start
                rw [List.length_map]
                refine ifd (fun hh => ?_) (fun hh => ?_)
                · rw [if_pos hh] at K2
                  repeat tb_start
                  exact ⟨_, _, _, A2, _, _, _, B29, ⟨_, _, _, _, _, _, rfl⟩, S29, e28.trans e29, hS26, K2, fb2.up e29, hf2.trans hfA, hbk2⟩
                · rw [if_neg hh] at K2
                  repeat tb_start
                  exact ⟨_, _, _, A2, _, _, _, B29, ⟨_, _, _, _, _, _, rfl⟩, S29, e28.trans e29, hS26, K2, fb2.up e29, hf2.trans hfA, hbk2⟩
              · have hzz : z = "made" ∨ z = "stock" ∨ z = "bad" := by
                  rcases KK.z with ⟨h, _⟩ | h
                  · exact absurd h hz
                  · exact h
                repeat tb_start
                refine new_tup S26 (by show 2 ≤ sizeLine; decide) fun t28 B28 H28 e28 ht28 S28 => ?_
                refine v_inT (zs := ["made", "stock"]) (S28.tqStay ht28) ?_
                have hxf2 : H28 A0.f = some (.ins CF A.dx (flF A)) := hfA ▸ S28.mem mF
                repeat tb_start
                refine ifd (fun hin => ?_) (fun hin => ?_)
                · repeat tb_start
                  refine nextQ (FL CF CL CI A) [] S28 hS26 (by decide) (by decide) fun r29 m29 cs29 kk29 H29 q9 q10 hS29 S29' => ?_
                  have S29 : Ok ⟨H, H, []⟩ B28 (FL CF CL CI A ++ hL p q m29 cs29 kk29) H29 := S29'
                  have hxf3 : H29 A0.f = some (.ins CF A.dx (flF A)) := hfA ▸ S29.mem mF
                  repeat tb_start
                  refine ⟨B28, A, 0, P0, decide (r29 = 0), by rw [hfA]; rfl, ⟨S29.sub, fbA.up e28, by omega⟩, hP, by rw [hstate]; simpa using hin, fun A2 B30 H30 e30 T30 fb2 hst2' hf2 => ?_⟩
                  have S30 : Ok ⟨H, H, []⟩ B30 (FL CF CL CI A2 ++ hL p q m29 cs29 kk29) H30 := S29.call T30
                  have K2 := KK.put (dd := .test ((0 : Nat) : Int) (decide (r29 = 0))) hpp { P0.s with state := if decide (r29 = 0) = true then "stock" else "bad" } rfl rfl rfl rfl (z' := if decide (r29 = 0) = true then "stock" else "bad") (a' := P0.s.at_) (by cases decide (r29 = 0) <;> simp)
                  rw [show A.st.put 0 _ _ = A2.st from hst2'.symm, hat] at K2
                  have hbk2 : A2.book.length ≤ 2 + i := by
                    have e : A2.st.book = A.st.book ++ [.test ((0 : Nat) : Int) (decide (r29 = 0))] := by rw [hst2']; rfl
                    have := congrArg List.length e
                    rw [List.length_append] at this
                    have h3 : A2.book.length = A.book.length + 1 := this
                    omega
                  repeat tb_start
                  refine ifb (fun hg => ?_) (fun hg => ?_)
                  · rw [if_pos hg] at K2
                    repeat tb_start
                    exact ⟨_, _, _, A2, _, _, _, B30, ⟨_, _, _, _, _, _, rfl⟩, S30, e28.trans e30, hS29, K2, fb2, hf2.trans hfA, hbk2⟩
                  · rw [if_neg (by rw [hg]; decide)] at K2
                    repeat tb_start
                    exact ⟨_, _, _, A2, _, _, _, B30, ⟨_, _, _, _, _, _, rfl⟩, S30, e28.trans e30, hS29, K2, fb2, hf2.trans hfA, hbk2⟩
                · have hbad : z = "bad" := by
                    rcases hzz with h | h | h
                    · exact absurd (by rw [h]; decide) hin
                    · exact absurd (by rw [h]; decide) hin
                    · exact h
                  repeat tb_start
                  rw [List.length_map]
                  have hl0 : 0 < st.length := List.length_pos_iff.mpr hst1
                  refine nextQ (FL CF CL CI A) [] S28 hS26 (by omega) (by omega) fun r29 m29 cs29 kk29 H29 q9 q10 hS29 S29' => ?_
                  have S29 : Ok ⟨H, H, []⟩ B28 (FL CF CL CI A ++ hL p q m29 cs29 kk29) H29 := S29'
                  have hxf3 : H29 A0.f = some (.ins CF A.dx (flF A)) := hfA ▸ S29.mem mF
                  repeat tb_start
                  refine ⟨B28, A, 0, P0, row13 st, r29, by rw [hfA]; rfl, ⟨S29.sub, fbA.up e28, by omega⟩, hP, by rw [hstate]; exact hbad, by rw [hpart]; exact hrow, q9, q10, fun A2 B30 H30 e30 T30 fb2 hst2' hf2 => ?_⟩
                  have S30 : Ok ⟨H, H, []⟩ B30 (FL CF CL CI A2 ++ hL p q m29 cs29 kk29) H30 := S29.call T30
                  have K2 := KK.put (dd := .rework ((0 : Nat) : Int) r29) hpp { P0.s with state := "making", at_ := r29 } rfl rfl rfl rfl (.inl ⟨rfl, q9, q10⟩)
                  rw [show A.st.put 0 _ _ = A2.st from hst2'.symm] at K2
                  have hbk2 : A2.book.length ≤ 2 + i := by
                    have e : A2.st.book = A.st.book ++ [.rework ((0 : Nat) : Int) r29] := by rw [hst2']; rfl
                    have := congrArg List.length e
                    rw [List.length_append] at this
                    have h3 : A2.book.length = A.book.length + 1 := this
                    omega
                  repeat tb_start
                  exact ⟨_, _, _, A2, _, _, _, B30, ⟨_, _, _, _, _, _, rfl⟩, S30, e28.trans e30, hS29, K2, fb2, hf2.trans hfA, hbk2⟩
            clear KK fbA hP hP0 hrow hpart hstate hat hcost hpp hxf S26
            rintro σ27 H27 ⟨z, at_, due, A, m, cs, kk, B27, ⟨_, _, _, _, _, _, rfl⟩, S27, e27, hS27, KK, fbA, hfA, hbA⟩
            obtain ⟨pp, hpp, hpart, hstate, hat, hcost⟩ := KK.pc
            obtain ⟨P0, hP0, rfl⟩ : ∃ P0, A.pcs = [P0] ∧ P0.s = pp := by
              have e : A.pcs.map (·.s) = [pp] := hpp
              match hA : A.pcs, e with
              | [P0], e => exact ⟨P0, rfl, (List.cons.inj e).1⟩
            have hP : A.pcs[0]? = some P0 := by rw [hP0]; rfl
            have hxf : H27 A0.f = some (.ins CF A.dx (flF A)) := hfA ▸ S27.mem mF
            have hrow : rowOf A.rs "a" = some (row13 st) := KK.row
            have hmem : P0.s.state ∈ allStates := by
              rw [hstate]
              rcases KK.z with ⟨h, _⟩ | h | h | h <;> rw [h] <;> decide
            have hnp : A.pcs.length ≤ 10000 := by rw [hP0]; exact (by decide : 1 ≤ 10000)
            repeat tb_start
            refine ⟨B27, A, 0, P0, by rw [hfA]; rfl, S27.sub, hnp, hP, hmem, fun B28 H28 e28 T28 => ?_⟩
            have S28 : Ok ⟨H, H, []⟩ B28 (FL CF CL CI A ++ hL p q m cs kk) H28 := S27.call T28
            rw [hstate]
            repeat tb_start
            refine ifndT rfl ?_
            repeat tb_start
            refine ⟨B28, A, 0, P0, by rw [hfA]; rfl, S28.sub, hnp, hP, hmem, fun B29 H29 e29 T29 => ?_⟩
            have S29 : Ok ⟨H, H, []⟩ B29 (FL CF CL CI A ++ hL p q m cs kk) H29 := S28.call T29
            repeat tb_start
            refine ⟨A, by rw [hfA], S29.mem mF, ?_⟩
            rw [hcost, show A.spent = due from KK.spent]
            repeat tb_start
            refine new_lst S29 (by show 2 ≤ sizeLine; decide) fun D30 H30 S30 => ?_
            obtain ⟨B30, e30, S31, d30⟩ := S30.toData (K := K) (ds := [.int due, .int due]) (.cons (.int _) (.cons (.int _) .nil))
            repeat tb_start
            refine new_lst S31 (by show 2 ≤ sizeLine; decide) fun D32 H32 S32 => ?_
            obtain ⟨B33, e33, S33, d33⟩ := S32.toData (K := K) (ds := [.int due, .int due]) (.cons (.int _) (.cons (.int _) .nil))
            repeat tb_start
            refine ⟨B33, _, _, .list [.int due, .int due], rfl, S33.ex, d30.up e33, d33, ⟨(by decide : 2 ≤ 100000), fun d hd => by
              simp only [List.mem_cons, List.not_mem_nil, or_false, or_self] at hd
              subst hd
              exact AlOk.int⟩, fun B34 H34 T34 => ?_⟩
            have S34 : Ok ⟨H, H, []⟩ B34 (FL CF CL CI A ++ hL p q m cs kk) H34 := S33.callP T34
            have e34 := T34.ex0
            have hxf4 : H34 A0.f = some (.ins CF A.dx (flF A)) := hfA ▸ S34.mem mF
            have e274 : Ex B27 B34 := e28.trans (e29.trans (e30.trans (e33.trans e34)))
            repeat tb_start
            refine ⟨B34, A, "a", row13 st, by rw [hfA], ⟨S34.sub, fbA.up e274, by omega⟩, hrow, fun B35 H35 e35 T35 => ?_⟩
            have S35 : Ok ⟨H, H, []⟩ B35 (FL CF CL CI A ++ hL p q m cs kk) H35 := S34.call T35
            repeat tb_start
            refine v_intBl ?_
            rw [show handOf A.st "a" = (if decide (z = "stock") = true then (1 : Int) else 0) from KK.hand hst1]
            repeat tb_start
            refine NxE.mk' S35 ((e25.trans e26).trans (e27.trans (e274.trans e35))) ?_
            exact ⟨z, at_, due, A, m, cs, kk, ⟨_, _, _, _, _, _, rfl⟩, rfl, hS27, KK, fbA.up (e274.trans e35), hfA, by omega⟩
          · rintro σ B25 L1 H26 ⟨z, at_, due, A, m, cs, kk, ⟨_, _, _, _, _, _, rfl⟩, rfl, hS26, KK, fbA, hfA, hbA⟩ e25 S26
            have S27 : Ok ⟨H, H, []⟩ B25 (hL p q m cs kk) H26 := right_ok S26
            refine NxE.mk' S27 (e124.trans e25) ?_
            exact ⟨⟨_, _, _, _, _, _, _, _, _, _, _, _, _, rfl⟩, _, _, _, hS26, rfl⟩
    · rintro σ B2 L1 H2 ⟨⟨_, _, _, _, _, _, _, _, _, _, _, _, _, rfl⟩, m, cs, kk, hS, rfl⟩ e1 S2
      repeat tb_start
      exact k _
end
end LW

namespace LW
open PySem PySem.Spec PyProof.Rows L2 WK PM
theorem all_mk {l : PySem.W.OpenLaw} {w : World} {K : PySem.W.Frag} {h : Heap} {mg : Str → Option Value} {fa : Addr} (X : K.In h) (G : h.Ns mainGlobals mg) (hfa : mg "law" = some (.ref fa))
    {f__law_mix : Addr} {od__law_mix an__law_mix : Option Addr} {sl__law_mix : Array (Option Value)} {oc__law_mix kV__law_mix dc__law_mix pm__law_mix cd__law_mix ct__law_mix : Value}
    {f__law_next : Addr} {od__law_next an__law_next : Option Addr} {sl__law_next : Array (Option Value)} {oc__law_next kV__law_next dc__law_next pm__law_next cd__law_next ct__law_next : Value}
    {f_is_name : Addr} {od_is_name an_is_name : Option Addr} {sl_is_name : Array (Option Value)} {oc_is_name kV_is_name dc_is_name pm_is_name cd_is_name ct_is_name : Value}
    {f__law_alike : Addr} {od__law_alike an__law_alike : Option Addr} {sl__law_alike : Array (Option Value)} {oc__law_alike kV__law_alike dc__law_alike pm__law_alike cd__law_alike ct__law_alike : Value}
    {f_need_many : Addr} {od_need_many an_need_many : Option Addr} {sl_need_many : Array (Option Value)} {oc_need_many kV_need_many dc_need_many pm_need_many cd_need_many ct_need_many : Value}
    {f_paid : Addr} {od_paid an_paid : Option Addr} {sl_paid : Array (Option Value)} {oc_paid kV_paid dc_paid pm_paid cd_paid ct_paid : Value}
    {f_cost : Addr} {od_cost an_cost : Option Addr} {sl_cost : Array (Option Value)} {oc_cost kV_cost dc_cost pm_cost cd_cost ct_cost : Value}
    {f_law : Addr} {od_law an_law : Option Addr} {sl_law : Array (Option Value)} {oc_law kV_law dc_law pm_law cd_law ct_law : Value}
    {C_Parts : Addr}
    {f_Parts_is_row : Addr} {od_Parts_is_row an_Parts_is_row : Option Addr} {sl_Parts_is_row : Array (Option Value)} {oc_Parts_is_row kV_Parts_is_row dc_Parts_is_row pm_Parts_is_row cd_Parts_is_row ct_Parts_is_row : Value}
    {f_Parts_led_to : Addr} {od_Parts_led_to an_Parts_led_to : Option Addr} {sl_Parts_led_to : Array (Option Value)} {oc_Parts_led_to kV_Parts_led_to dc_Parts_led_to pm_Parts_led_to cd_Parts_led_to ct_Parts_led_to : Value}
    {f_Parts___init__ : Addr} {od_Parts___init__ an_Parts___init__ : Option Addr} {sl_Parts___init__ : Array (Option Value)} {oc_Parts___init__ kV_Parts___init__ dc_Parts___init__ pm_Parts___init__ cd_Parts___init__ ct_Parts___init__ : Value}
    {f_Parts_needs_of : Addr} {od_Parts_needs_of an_Parts_needs_of : Option Addr} {sl_Parts_needs_of : Array (Option Value)} {oc_Parts_needs_of kV_Parts_needs_of dc_Parts_needs_of pm_Parts_needs_of cd_Parts_needs_of ct_Parts_needs_of : Value}
    {f_Parts_steps_of : Addr} {od_Parts_steps_of an_Parts_steps_of : Option Addr} {sl_Parts_steps_of : Array (Option Value)} {oc_Parts_steps_of kV_Parts_steps_of dc_Parts_steps_of pm_Parts_steps_of cd_Parts_steps_of ct_Parts_steps_of : Value}
    {f_Parts_is_bought : Addr} {od_Parts_is_bought an_Parts_is_bought : Option Addr} {sl_Parts_is_bought : Array (Option Value)} {oc_Parts_is_bought kV_Parts_is_bought dc_Parts_is_bought pm_Parts_is_bought cd_Parts_is_bought ct_Parts_is_bought : Value}
    {f_Parts_need_part : Addr} {od_Parts_need_part an_Parts_need_part : Option Addr} {sl_Parts_need_part : Array (Option Value)} {oc_Parts_need_part kV_Parts_need_part dc_Parts_need_part pm_Parts_need_part cd_Parts_need_part ct_Parts_need_part : Value}
    {C_Floor : Addr}
    {f_Floor___init__ : Addr} {od_Floor___init__ an_Floor___init__ : Option Addr} {sl_Floor___init__ : Array (Option Value)} {oc_Floor___init__ kV_Floor___init__ dc_Floor___init__ pm_Floor___init__ cd_Floor___init__ ct_Floor___init__ : Value}
    {f_Floor_piece : Addr} {od_Floor_piece an_Floor_piece : Option Addr} {sl_Floor_piece : Array (Option Value)} {oc_Floor_piece kV_Floor_piece dc_Floor_piece pm_Floor_piece cd_Floor_piece ct_Floor_piece : Value}
    {f_Floor_work : Addr} {od_Floor_work an_Floor_work : Option Addr} {sl_Floor_work : Array (Option Value)} {oc_Floor_work kV_Floor_work dc_Floor_work pm_Floor_work cd_Floor_work ct_Floor_work : Value}
    {f_Floor_test : Addr} {od_Floor_test an_Floor_test : Option Addr} {sl_Floor_test : Array (Option Value)} {oc_Floor_test kV_Floor_test dc_Floor_test pm_Floor_test cd_Floor_test ct_Floor_test : Value}
    {f_Floor_rework : Addr} {od_Floor_rework an_Floor_rework : Option Addr} {sl_Floor_rework : Array (Option Value)} {oc_Floor_rework kV_Floor_rework dc_Floor_rework pm_Floor_rework cd_Floor_rework ct_Floor_rework : Value}
    {f_Floor_state_of : Addr} {od_Floor_state_of an_Floor_state_of : Option Addr} {sl_Floor_state_of : Array (Option Value)} {oc_Floor_state_of kV_Floor_state_of dc_Floor_state_of pm_Floor_state_of cd_Floor_state_of ct_Floor_state_of : Value}
    {f_Floor_lots_for : Addr} {od_Floor_lots_for an_Floor_lots_for : Option Addr} {sl_Floor_lots_for : Array (Option Value)} {oc_Floor_lots_for kV_Floor_lots_for dc_Floor_lots_for pm_Floor_lots_for cd_Floor_lots_for ct_Floor_lots_for : Value}
    {f_Floor_pieces_for : Addr} {od_Floor_pieces_for an_Floor_pieces_for : Option Addr} {sl_Floor_pieces_for : Array (Option Value)} {oc_Floor_pieces_for kV_Floor_pieces_for dc_Floor_pieces_for pm_Floor_pieces_for cd_Floor_pieces_for ct_Floor_pieces_for : Value}
    {f_Floor_hold : Addr} {od_Floor_hold an_Floor_hold : Option Addr} {sl_Floor_hold : Array (Option Value)} {oc_Floor_hold kV_Floor_hold dc_Floor_hold pm_Floor_hold cd_Floor_hold ct_Floor_hold : Value}
    {f_Floor_put_in : Addr} {od_Floor_put_in an_Floor_put_in : Option Addr} {sl_Floor_put_in : Array (Option Value)} {oc_Floor_put_in kV_Floor_put_in dc_Floor_put_in pm_Floor_put_in cd_Floor_put_in ct_Floor_put_in : Value}
    {f_Floor_begin : Addr} {od_Floor_begin an_Floor_begin : Option Addr} {sl_Floor_begin : Array (Option Value)} {oc_Floor_begin kV_Floor_begin dc_Floor_begin pm_Floor_begin cd_Floor_begin ct_Floor_begin : Value}
    {f_Floor_at_hand : Addr} {od_Floor_at_hand an_Floor_at_hand : Option Addr} {sl_Floor_at_hand : Array (Option Value)} {oc_Floor_at_hand kV_Floor_at_hand dc_Floor_at_hand pm_Floor_at_hand cd_Floor_at_hand ct_Floor_at_hand : Value}
    {C_Piece : Addr}
    {f_Piece___init__ : Addr} {od_Piece___init__ an_Piece___init__ : Option Addr} {sl_Piece___init__ : Array (Option Value)} {oc_Piece___init__ kV_Piece___init__ dc_Piece___init__ pm_Piece___init__ cd_Piece___init__ ct_Piece___init__ : Value}
    {tk_MOST_SIGNS : Tok}
    {tk_MOST_LOT : Tok}
    {tk_MOST_LEAD : Tok}
    {tk_MOST_NEED : Tok}
    {tk_MOST_STEPS : Tok}
    {tk_MACHINES : Tok}
    {tk_MOST_MINUTES : Tok}
    {tk_MOST_PARTS : Tok}
    {tk_MOST_LED : Tok}
    {tk_MOST_RATE : Tok}
    {tk_LETTERS : Tok}
    {tk_MAKING : Tok}
    {tk_MADE : Tok}
    {tk_STOCK : Tok}
    {tk_BAD : Tok}
    {tk_WITHIN : Tok}
    {tk_SOLD : Tok}
    {tk_SCRAP : Tok}
    {tk_STRIPPED : Tok}
    {T_HOUSE : Addr} {to_HOUSE : Option Addr} {tn_HOUSE : Nat} {ts_HOUSE : Array (Option Value)} {tt_HOUSE_0 : Tok} {tt_HOUSE_1 : Tok} {tt_HOUSE_2 : Tok} {tt_HOUSE_3 : Tok}
    (a__law_mix : PySem.W.nsIn K mainGlobals "_law_mix" = some (some (.ref f__law_mix)))
    (l__law_mix : K.lookup f__law_mix = some ⟨oc__law_mix, od__law_mix, .func (PySem.W.fnOf "_law_mix" "_law_mix" (defArgs s__law_mix) (defBody s__law_mix) (defScope s__law_mix) .none kV__law_mix dc__law_mix pm__law_mix an__law_mix cd__law_mix ct__law_mix), sl__law_mix⟩)
    (c__law_mix : PySem.W.codeIn K cd__law_mix "_law_mix" = true)
    (k__law_mix : PySem.W.keepIn K (.ref f__law_mix) = true)
    (a__law_next : PySem.W.nsIn K mainGlobals "_law_next" = some (some (.ref f__law_next)))
    (l__law_next : K.lookup f__law_next = some ⟨oc__law_next, od__law_next, .func (PySem.W.fnOf "_law_next" "_law_next" (defArgs s__law_next) (defBody s__law_next) (defScope s__law_next) .none kV__law_next dc__law_next pm__law_next an__law_next cd__law_next ct__law_next), sl__law_next⟩)
    (c__law_next : PySem.W.codeIn K cd__law_next "_law_next" = true)
    (k__law_next : PySem.W.keepIn K (.ref f__law_next) = true)
    (a_is_name : PySem.W.nsIn K mainGlobals "is_name" = some (some (.ref f_is_name)))
    (l_is_name : K.lookup f_is_name = some ⟨oc_is_name, od_is_name, .func (PySem.W.fnOf "is_name" "is_name" (defArgs s_is_name) (defBody s_is_name) (defScope s_is_name) .none kV_is_name dc_is_name pm_is_name an_is_name cd_is_name ct_is_name), sl_is_name⟩)
    (c_is_name : PySem.W.codeIn K cd_is_name "is_name" = true)
    (k_is_name : PySem.W.keepIn K (.ref f_is_name) = true)
    (a__law_alike : PySem.W.nsIn K mainGlobals "_law_alike" = some (some (.ref f__law_alike)))
    (l__law_alike : K.lookup f__law_alike = some ⟨oc__law_alike, od__law_alike, .func (PySem.W.fnOf "_law_alike" "_law_alike" (defArgs s__law_alike) (defBody s__law_alike) (defScope s__law_alike) .none kV__law_alike dc__law_alike pm__law_alike an__law_alike cd__law_alike ct__law_alike), sl__law_alike⟩)
    (c__law_alike : PySem.W.codeIn K cd__law_alike "_law_alike" = true)
    (k__law_alike : PySem.W.keepIn K (.ref f__law_alike) = true)
    (a_need_many : PySem.W.nsIn K mainGlobals "need_many" = some (some (.ref f_need_many)))
    (l_need_many : K.lookup f_need_many = some ⟨oc_need_many, od_need_many, .func (PySem.W.fnOf "need_many" "need_many" (defArgs s_need_many) (defBody s_need_many) (defScope s_need_many) .none kV_need_many dc_need_many pm_need_many an_need_many cd_need_many ct_need_many), sl_need_many⟩)
    (c_need_many : PySem.W.codeIn K cd_need_many "need_many" = true)
    (k_need_many : PySem.W.keepIn K (.ref f_need_many) = true)
    (a_paid : PySem.W.nsIn K mainGlobals "paid" = some (some (.ref f_paid)))
    (l_paid : K.lookup f_paid = some ⟨oc_paid, od_paid, .func (PySem.W.fnOf "paid" "paid" (defArgs s_paid) (defBody s_paid) (defScope s_paid) .none kV_paid dc_paid pm_paid an_paid cd_paid ct_paid), sl_paid⟩)
    (c_paid : PySem.W.codeIn K cd_paid "paid" = true)
    (k_paid : PySem.W.keepIn K (.ref f_paid) = true)
    (a_cost : PySem.W.nsIn K mainGlobals "cost" = some (some (.ref f_cost)))
    (l_cost : K.lookup f_cost = some ⟨oc_cost, od_cost, .func (PySem.W.fnOf "cost" "cost" (defArgs s_cost) (defBody s_cost) (defScope s_cost) .none kV_cost dc_cost pm_cost an_cost cd_cost ct_cost), sl_cost⟩)
    (c_cost : PySem.W.codeIn K cd_cost "cost" = true)
    (k_cost : PySem.W.keepIn K (.ref f_cost) = true)
    (a_law : PySem.W.nsIn K mainGlobals "law" = some (some (.ref f_law)))
    (l_law : K.lookup f_law = some ⟨oc_law, od_law, .func (PySem.W.fnOf "law" "law" (defArgs s_law) (defBody s_law) (defScope s_law) .none kV_law dc_law pm_law an_law cd_law ct_law), sl_law⟩)
    (c_law : PySem.W.codeIn K cd_law "law" = true)
    (k_law : PySem.W.keepIn K (.ref f_law) = true)
    (aC_Parts : PySem.W.nsIn K mainGlobals "Parts" = some (some (.ref C_Parts)))
    (a_Parts_is_row : PySem.W.findIn K (.ref C_Parts) "is_row" = some (some (.ref f_Parts_is_row)))
    (i_Parts_is_row : PySem.W.isFn K (.ref f_Parts_is_row) = true)
    (l_Parts_is_row : K.lookup f_Parts_is_row = some ⟨oc_Parts_is_row, od_Parts_is_row, .func (PySem.W.fnOf "is_row" "Parts.is_row" (defArgs s_Parts_is_row) (defBody s_Parts_is_row) (defScope s_Parts_is_row) .none kV_Parts_is_row dc_Parts_is_row pm_Parts_is_row an_Parts_is_row cd_Parts_is_row ct_Parts_is_row), sl_Parts_is_row⟩)
    (c_Parts_is_row : PySem.W.codeIn K cd_Parts_is_row "Parts.is_row" = true)
    (k_Parts_is_row : PySem.W.keepIn K (.ref f_Parts_is_row) = true)
    (a_Parts_led_to : PySem.W.findIn K (.ref C_Parts) "led_to" = some (some (.ref f_Parts_led_to)))
    (i_Parts_led_to : PySem.W.isFn K (.ref f_Parts_led_to) = true)
    (l_Parts_led_to : K.lookup f_Parts_led_to = some ⟨oc_Parts_led_to, od_Parts_led_to, .func (PySem.W.fnOf "led_to" "Parts.led_to" (defArgs s_Parts_led_to) (defBody s_Parts_led_to) (defScope s_Parts_led_to) .none kV_Parts_led_to dc_Parts_led_to pm_Parts_led_to an_Parts_led_to cd_Parts_led_to ct_Parts_led_to), sl_Parts_led_to⟩)
    (c_Parts_led_to : PySem.W.codeIn K cd_Parts_led_to "Parts.led_to" = true)
    (k_Parts_led_to : PySem.W.keepIn K (.ref f_Parts_led_to) = true)
    (a_Parts___init__ : PySem.W.findIn K (.ref C_Parts) "__init__" = some (some (.ref f_Parts___init__)))
    (i_Parts___init__ : PySem.W.isFn K (.ref f_Parts___init__) = true)
    (l_Parts___init__ : K.lookup f_Parts___init__ = some ⟨oc_Parts___init__, od_Parts___init__, .func (PySem.W.fnOf "__init__" "Parts.__init__" (defArgs s_Parts___init__) (defBody s_Parts___init__) (defScope s_Parts___init__) .none kV_Parts___init__ dc_Parts___init__ pm_Parts___init__ an_Parts___init__ cd_Parts___init__ ct_Parts___init__), sl_Parts___init__⟩)
    (c_Parts___init__ : PySem.W.codeIn K cd_Parts___init__ "Parts.__init__" = true)
    (k_Parts___init__ : PySem.W.keepIn K (.ref f_Parts___init__) = true)
    (a_Parts_needs_of : PySem.W.findIn K (.ref C_Parts) "needs_of" = some (some (.ref f_Parts_needs_of)))
    (i_Parts_needs_of : PySem.W.isFn K (.ref f_Parts_needs_of) = true)
    (l_Parts_needs_of : K.lookup f_Parts_needs_of = some ⟨oc_Parts_needs_of, od_Parts_needs_of, .func (PySem.W.fnOf "needs_of" "Parts.needs_of" (defArgs s_Parts_needs_of) (defBody s_Parts_needs_of) (defScope s_Parts_needs_of) .none kV_Parts_needs_of dc_Parts_needs_of pm_Parts_needs_of an_Parts_needs_of cd_Parts_needs_of ct_Parts_needs_of), sl_Parts_needs_of⟩)
    (c_Parts_needs_of : PySem.W.codeIn K cd_Parts_needs_of "Parts.needs_of" = true)
    (k_Parts_needs_of : PySem.W.keepIn K (.ref f_Parts_needs_of) = true)
    (a_Parts_steps_of : PySem.W.findIn K (.ref C_Parts) "steps_of" = some (some (.ref f_Parts_steps_of)))
    (i_Parts_steps_of : PySem.W.isFn K (.ref f_Parts_steps_of) = true)
    (l_Parts_steps_of : K.lookup f_Parts_steps_of = some ⟨oc_Parts_steps_of, od_Parts_steps_of, .func (PySem.W.fnOf "steps_of" "Parts.steps_of" (defArgs s_Parts_steps_of) (defBody s_Parts_steps_of) (defScope s_Parts_steps_of) .none kV_Parts_steps_of dc_Parts_steps_of pm_Parts_steps_of an_Parts_steps_of cd_Parts_steps_of ct_Parts_steps_of), sl_Parts_steps_of⟩)
    (c_Parts_steps_of : PySem.W.codeIn K cd_Parts_steps_of "Parts.steps_of" = true)
    (k_Parts_steps_of : PySem.W.keepIn K (.ref f_Parts_steps_of) = true)
    (a_Parts_is_bought : PySem.W.findIn K (.ref C_Parts) "is_bought" = some (some (.ref f_Parts_is_bought)))
    (i_Parts_is_bought : PySem.W.isFn K (.ref f_Parts_is_bought) = true)
    (l_Parts_is_bought : K.lookup f_Parts_is_bought = some ⟨oc_Parts_is_bought, od_Parts_is_bought, .func (PySem.W.fnOf "is_bought" "Parts.is_bought" (defArgs s_Parts_is_bought) (defBody s_Parts_is_bought) (defScope s_Parts_is_bought) .none kV_Parts_is_bought dc_Parts_is_bought pm_Parts_is_bought an_Parts_is_bought cd_Parts_is_bought ct_Parts_is_bought), sl_Parts_is_bought⟩)
    (c_Parts_is_bought : PySem.W.codeIn K cd_Parts_is_bought "Parts.is_bought" = true)
    (k_Parts_is_bought : PySem.W.keepIn K (.ref f_Parts_is_bought) = true)
    (a_Parts_need_part : PySem.W.findIn K (.ref C_Parts) "need_part" = some (some (.ref f_Parts_need_part)))
    (i_Parts_need_part : PySem.W.isFn K (.ref f_Parts_need_part) = true)
    (l_Parts_need_part : K.lookup f_Parts_need_part = some ⟨oc_Parts_need_part, od_Parts_need_part, .func (PySem.W.fnOf "need_part" "Parts.need_part" (defArgs s_Parts_need_part) (defBody s_Parts_need_part) (defScope s_Parts_need_part) .none kV_Parts_need_part dc_Parts_need_part pm_Parts_need_part an_Parts_need_part cd_Parts_need_part ct_Parts_need_part), sl_Parts_need_part⟩)
    (c_Parts_need_part : PySem.W.codeIn K cd_Parts_need_part "Parts.need_part" = true)
    (k_Parts_need_part : PySem.W.keepIn K (.ref f_Parts_need_part) = true)
    (pg_Parts : PySem.W.plainGet K C_Parts Str.empty = true)
    (hd_Parts : PySem.W.hasDictIn K C_Parts = true)
    (po_Parts : PySem.W.plainOver K C_Parts = true)
    (sa_Parts : PySem.W.findIn K (.ref C_Parts) "__setattr__" = some (some (.builtin "object.__setattr__")))
    (mk_Parts : PySem.W.makesIn K C_Parts = true)
    (kc_Parts : PySem.W.keepIn K (.ref C_Parts) = true)
    (n_Parts_rows : PySem.W.findIn K (.ref C_Parts) "rows" = some none)
    (n_Parts_led : PySem.W.findIn K (.ref C_Parts) "led" = some none)
    (aC_Floor : PySem.W.nsIn K mainGlobals "Floor" = some (some (.ref C_Floor)))
    (a_Floor___init__ : PySem.W.findIn K (.ref C_Floor) "__init__" = some (some (.ref f_Floor___init__)))
    (i_Floor___init__ : PySem.W.isFn K (.ref f_Floor___init__) = true)
    (l_Floor___init__ : K.lookup f_Floor___init__ = some ⟨oc_Floor___init__, od_Floor___init__, .func (PySem.W.fnOf "__init__" "Floor.__init__" (defArgs s_Floor___init__) (defBody s_Floor___init__) (defScope s_Floor___init__) .none kV_Floor___init__ dc_Floor___init__ pm_Floor___init__ an_Floor___init__ cd_Floor___init__ ct_Floor___init__), sl_Floor___init__⟩)
    (c_Floor___init__ : PySem.W.codeIn K cd_Floor___init__ "Floor.__init__" = true)
    (k_Floor___init__ : PySem.W.keepIn K (.ref f_Floor___init__) = true)
    (a_Floor_piece : PySem.W.findIn K (.ref C_Floor) "piece" = some (some (.ref f_Floor_piece)))
    (i_Floor_piece : PySem.W.isFn K (.ref f_Floor_piece) = true)
    (l_Floor_piece : K.lookup f_Floor_piece = some ⟨oc_Floor_piece, od_Floor_piece, .func (PySem.W.fnOf "piece" "Floor.piece" (defArgs s_Floor_piece) (defBody s_Floor_piece) (defScope s_Floor_piece) .none kV_Floor_piece dc_Floor_piece pm_Floor_piece an_Floor_piece cd_Floor_piece ct_Floor_piece), sl_Floor_piece⟩)
    (c_Floor_piece : PySem.W.codeIn K cd_Floor_piece "Floor.piece" = true)
    (k_Floor_piece : PySem.W.keepIn K (.ref f_Floor_piece) = true)
    (a_Floor_work : PySem.W.findIn K (.ref C_Floor) "work" = some (some (.ref f_Floor_work)))
    (i_Floor_work : PySem.W.isFn K (.ref f_Floor_work) = true)
    (l_Floor_work : K.lookup f_Floor_work = some ⟨oc_Floor_work, od_Floor_work, .func (PySem.W.fnOf "work" "Floor.work" (defArgs s_Floor_work) (defBody s_Floor_work) (defScope s_Floor_work) .none kV_Floor_work dc_Floor_work pm_Floor_work an_Floor_work cd_Floor_work ct_Floor_work), sl_Floor_work⟩)
    (c_Floor_work : PySem.W.codeIn K cd_Floor_work "Floor.work" = true)
    (k_Floor_work : PySem.W.keepIn K (.ref f_Floor_work) = true)
    (a_Floor_test : PySem.W.findIn K (.ref C_Floor) "test" = some (some (.ref f_Floor_test)))
    (i_Floor_test : PySem.W.isFn K (.ref f_Floor_test) = true)
    (l_Floor_test : K.lookup f_Floor_test = some ⟨oc_Floor_test, od_Floor_test, .func (PySem.W.fnOf "test" "Floor.test" (defArgs s_Floor_test) (defBody s_Floor_test) (defScope s_Floor_test) .none kV_Floor_test dc_Floor_test pm_Floor_test an_Floor_test cd_Floor_test ct_Floor_test), sl_Floor_test⟩)
    (c_Floor_test : PySem.W.codeIn K cd_Floor_test "Floor.test" = true)
    (k_Floor_test : PySem.W.keepIn K (.ref f_Floor_test) = true)
    (a_Floor_rework : PySem.W.findIn K (.ref C_Floor) "rework" = some (some (.ref f_Floor_rework)))
    (i_Floor_rework : PySem.W.isFn K (.ref f_Floor_rework) = true)
    (l_Floor_rework : K.lookup f_Floor_rework = some ⟨oc_Floor_rework, od_Floor_rework, .func (PySem.W.fnOf "rework" "Floor.rework" (defArgs s_Floor_rework) (defBody s_Floor_rework) (defScope s_Floor_rework) .none kV_Floor_rework dc_Floor_rework pm_Floor_rework an_Floor_rework cd_Floor_rework ct_Floor_rework), sl_Floor_rework⟩)
    (c_Floor_rework : PySem.W.codeIn K cd_Floor_rework "Floor.rework" = true)
    (k_Floor_rework : PySem.W.keepIn K (.ref f_Floor_rework) = true)
    (a_Floor_state_of : PySem.W.findIn K (.ref C_Floor) "state_of" = some (some (.ref f_Floor_state_of)))
    (i_Floor_state_of : PySem.W.isFn K (.ref f_Floor_state_of) = true)
    (l_Floor_state_of : K.lookup f_Floor_state_of = some ⟨oc_Floor_state_of, od_Floor_state_of, .func (PySem.W.fnOf "state_of" "Floor.state_of" (defArgs s_Floor_state_of) (defBody s_Floor_state_of) (defScope s_Floor_state_of) .none kV_Floor_state_of dc_Floor_state_of pm_Floor_state_of an_Floor_state_of cd_Floor_state_of ct_Floor_state_of), sl_Floor_state_of⟩)
    (c_Floor_state_of : PySem.W.codeIn K cd_Floor_state_of "Floor.state_of" = true)
    (k_Floor_state_of : PySem.W.keepIn K (.ref f_Floor_state_of) = true)
    (a_Floor_lots_for : PySem.W.findIn K (.ref C_Floor) "lots_for" = some (some (.ref f_Floor_lots_for)))
    (i_Floor_lots_for : PySem.W.isFn K (.ref f_Floor_lots_for) = true)
    (l_Floor_lots_for : K.lookup f_Floor_lots_for = some ⟨oc_Floor_lots_for, od_Floor_lots_for, .func (PySem.W.fnOf "lots_for" "Floor.lots_for" (defArgs s_Floor_lots_for) (defBody s_Floor_lots_for) (defScope s_Floor_lots_for) .none kV_Floor_lots_for dc_Floor_lots_for pm_Floor_lots_for an_Floor_lots_for cd_Floor_lots_for ct_Floor_lots_for), sl_Floor_lots_for⟩)
    (c_Floor_lots_for : PySem.W.codeIn K cd_Floor_lots_for "Floor.lots_for" = true)
    (k_Floor_lots_for : PySem.W.keepIn K (.ref f_Floor_lots_for) = true)
    (a_Floor_pieces_for : PySem.W.findIn K (.ref C_Floor) "pieces_for" = some (some (.ref f_Floor_pieces_for)))
    (i_Floor_pieces_for : PySem.W.isFn K (.ref f_Floor_pieces_for) = true)
    (l_Floor_pieces_for : K.lookup f_Floor_pieces_for = some ⟨oc_Floor_pieces_for, od_Floor_pieces_for, .func (PySem.W.fnOf "pieces_for" "Floor.pieces_for" (defArgs s_Floor_pieces_for) (defBody s_Floor_pieces_for) (defScope s_Floor_pieces_for) .none kV_Floor_pieces_for dc_Floor_pieces_for pm_Floor_pieces_for an_Floor_pieces_for cd_Floor_pieces_for ct_Floor_pieces_for), sl_Floor_pieces_for⟩)
    (c_Floor_pieces_for : PySem.W.codeIn K cd_Floor_pieces_for "Floor.pieces_for" = true)
    (k_Floor_pieces_for : PySem.W.keepIn K (.ref f_Floor_pieces_for) = true)
    (a_Floor_hold : PySem.W.findIn K (.ref C_Floor) "hold" = some (some (.ref f_Floor_hold)))
    (i_Floor_hold : PySem.W.isFn K (.ref f_Floor_hold) = true)
    (l_Floor_hold : K.lookup f_Floor_hold = some ⟨oc_Floor_hold, od_Floor_hold, .func (PySem.W.fnOf "hold" "Floor.hold" (defArgs s_Floor_hold) (defBody s_Floor_hold) (defScope s_Floor_hold) .none kV_Floor_hold dc_Floor_hold pm_Floor_hold an_Floor_hold cd_Floor_hold ct_Floor_hold), sl_Floor_hold⟩)
    (c_Floor_hold : PySem.W.codeIn K cd_Floor_hold "Floor.hold" = true)
    (k_Floor_hold : PySem.W.keepIn K (.ref f_Floor_hold) = true)
    (a_Floor_put_in : PySem.W.findIn K (.ref C_Floor) "put_in" = some (some (.ref f_Floor_put_in)))
    (i_Floor_put_in : PySem.W.isFn K (.ref f_Floor_put_in) = true)
    (l_Floor_put_in : K.lookup f_Floor_put_in = some ⟨oc_Floor_put_in, od_Floor_put_in, .func (PySem.W.fnOf "put_in" "Floor.put_in" (defArgs s_Floor_put_in) (defBody s_Floor_put_in) (defScope s_Floor_put_in) .none kV_Floor_put_in dc_Floor_put_in pm_Floor_put_in an_Floor_put_in cd_Floor_put_in ct_Floor_put_in), sl_Floor_put_in⟩)
    (c_Floor_put_in : PySem.W.codeIn K cd_Floor_put_in "Floor.put_in" = true)
    (k_Floor_put_in : PySem.W.keepIn K (.ref f_Floor_put_in) = true)
    (a_Floor_begin : PySem.W.findIn K (.ref C_Floor) "begin" = some (some (.ref f_Floor_begin)))
    (i_Floor_begin : PySem.W.isFn K (.ref f_Floor_begin) = true)
    (l_Floor_begin : K.lookup f_Floor_begin = some ⟨oc_Floor_begin, od_Floor_begin, .func (PySem.W.fnOf "begin" "Floor.begin" (defArgs s_Floor_begin) (defBody s_Floor_begin) (defScope s_Floor_begin) .none kV_Floor_begin dc_Floor_begin pm_Floor_begin an_Floor_begin cd_Floor_begin ct_Floor_begin), sl_Floor_begin⟩)
    (c_Floor_begin : PySem.W.codeIn K cd_Floor_begin "Floor.begin" = true)
    (k_Floor_begin : PySem.W.keepIn K (.ref f_Floor_begin) = true)
    (a_Floor_at_hand : PySem.W.findIn K (.ref C_Floor) "at_hand" = some (some (.ref f_Floor_at_hand)))
    (i_Floor_at_hand : PySem.W.isFn K (.ref f_Floor_at_hand) = true)
    (l_Floor_at_hand : K.lookup f_Floor_at_hand = some ⟨oc_Floor_at_hand, od_Floor_at_hand, .func (PySem.W.fnOf "at_hand" "Floor.at_hand" (defArgs s_Floor_at_hand) (defBody s_Floor_at_hand) (defScope s_Floor_at_hand) .none kV_Floor_at_hand dc_Floor_at_hand pm_Floor_at_hand an_Floor_at_hand cd_Floor_at_hand ct_Floor_at_hand), sl_Floor_at_hand⟩)
    (c_Floor_at_hand : PySem.W.codeIn K cd_Floor_at_hand "Floor.at_hand" = true)
    (k_Floor_at_hand : PySem.W.keepIn K (.ref f_Floor_at_hand) = true)
    (pg_Floor : PySem.W.plainGet K C_Floor Str.empty = true)
    (hd_Floor : PySem.W.hasDictIn K C_Floor = true)
    (po_Floor : PySem.W.plainOver K C_Floor = true)
    (sa_Floor : PySem.W.findIn K (.ref C_Floor) "__setattr__" = some (some (.builtin "object.__setattr__")))
    (mk_Floor : PySem.W.makesIn K C_Floor = true)
    (kc_Floor : PySem.W.keepIn K (.ref C_Floor) = true)
    (n_Floor_book : PySem.W.findIn K (.ref C_Floor) "book" = some none)
    (n_Floor_rates : PySem.W.findIn K (.ref C_Floor) "rates" = some none)
    (n_Floor_lots : PySem.W.findIn K (.ref C_Floor) "lots" = some none)
    (n_Floor_pieces : PySem.W.findIn K (.ref C_Floor) "pieces" = some none)
    (n_Floor_notes : PySem.W.findIn K (.ref C_Floor) "notes" = some none)
    (n_Floor_spent : PySem.W.findIn K (.ref C_Floor) "spent" = some none)
    (n_Floor_lost : PySem.W.findIn K (.ref C_Floor) "lost" = some none)
    (aC_Piece : PySem.W.nsIn K mainGlobals "Piece" = some (some (.ref C_Piece)))
    (a_Piece___init__ : PySem.W.findIn K (.ref C_Piece) "__init__" = some (some (.ref f_Piece___init__)))
    (i_Piece___init__ : PySem.W.isFn K (.ref f_Piece___init__) = true)
    (l_Piece___init__ : K.lookup f_Piece___init__ = some ⟨oc_Piece___init__, od_Piece___init__, .func (PySem.W.fnOf "__init__" "Piece.__init__" (defArgs s_Piece___init__) (defBody s_Piece___init__) (defScope s_Piece___init__) .none kV_Piece___init__ dc_Piece___init__ pm_Piece___init__ an_Piece___init__ cd_Piece___init__ ct_Piece___init__), sl_Piece___init__⟩)
    (c_Piece___init__ : PySem.W.codeIn K cd_Piece___init__ "Piece.__init__" = true)
    (k_Piece___init__ : PySem.W.keepIn K (.ref f_Piece___init__) = true)
    (pg_Piece : PySem.W.plainGet K C_Piece Str.empty = true)
    (hd_Piece : PySem.W.hasDictIn K C_Piece = true)
    (po_Piece : PySem.W.plainOver K C_Piece = true)
    (sa_Piece : PySem.W.findIn K (.ref C_Piece) "__setattr__" = some (some (.builtin "object.__setattr__")))
    (mk_Piece : PySem.W.makesIn K C_Piece = true)
    (kc_Piece : PySem.W.keepIn K (.ref C_Piece) = true)
    (n_Piece_part : PySem.W.findIn K (.ref C_Piece) "part" = some none)
    (n_Piece_left : PySem.W.findIn K (.ref C_Piece) "left" = some none)
    (n_Piece_price : PySem.W.findIn K (.ref C_Piece) "price" = some none)
    (n_Piece_state : PySem.W.findIn K (.ref C_Piece) "state" = some none)
    (n_Piece_at : PySem.W.findIn K (.ref C_Piece) "at" = some none)
    (n_Piece_cost : PySem.W.findIn K (.ref C_Piece) "cost" = some none)
    (n_Piece_lots : PySem.W.findIn K (.ref C_Piece) "lots" = some none)
    (n_Piece_pieces : PySem.W.findIn K (.ref C_Piece) "pieces" = some none)
    (n_Piece_above : PySem.W.findIn K (.ref C_Piece) "above" = some none)
    (n_Piece_client : PySem.W.findIn K (.ref C_Piece) "client" = some none)
    (g_MOST_SIGNS : PySem.W.nsIn K mainGlobals "MOST_SIGNS" = some (some (.int 8 tk_MOST_SIGNS)))
    (g_MOST_LOT : PySem.W.nsIn K mainGlobals "MOST_LOT" = some (some (.int 99 tk_MOST_LOT)))
    (g_MOST_LEAD : PySem.W.nsIn K mainGlobals "MOST_LEAD" = some (some (.int 30 tk_MOST_LEAD)))
    (g_MOST_NEED : PySem.W.nsIn K mainGlobals "MOST_NEED" = some (some (.int 9 tk_MOST_NEED)))
    (g_MOST_STEPS : PySem.W.nsIn K mainGlobals "MOST_STEPS" = some (some (.int 5 tk_MOST_STEPS)))
    (g_MACHINES : PySem.W.nsIn K mainGlobals "MACHINES" = some (some (.int 6 tk_MACHINES)))
    (g_MOST_MINUTES : PySem.W.nsIn K mainGlobals "MOST_MINUTES" = some (some (.int 99 tk_MOST_MINUTES)))
    (g_MOST_PARTS : PySem.W.nsIn K mainGlobals "MOST_PARTS" = some (some (.int 12 tk_MOST_PARTS)))
    (g_MOST_LED : PySem.W.nsIn K mainGlobals "MOST_LED" = some (some (.int 200 tk_MOST_LED)))
    (g_MOST_RATE : PySem.W.nsIn K mainGlobals "MOST_RATE" = some (some (.int 99 tk_MOST_RATE)))
    (g_LETTERS : PySem.W.nsIn K mainGlobals "LETTERS" = some (some (.str letters tk_LETTERS)))
    (g_MAKING : PySem.W.nsIn K mainGlobals "MAKING" = some (some (.str "making" tk_MAKING)))
    (g_MADE : PySem.W.nsIn K mainGlobals "MADE" = some (some (.str "made" tk_MADE)))
    (g_STOCK : PySem.W.nsIn K mainGlobals "STOCK" = some (some (.str "stock" tk_STOCK)))
    (g_BAD : PySem.W.nsIn K mainGlobals "BAD" = some (some (.str "bad" tk_BAD)))
    (g_WITHIN : PySem.W.nsIn K mainGlobals "WITHIN" = some (some (.str "within" tk_WITHIN)))
    (g_SOLD : PySem.W.nsIn K mainGlobals "SOLD" = some (some (.str "sold" tk_SOLD)))
    (g_SCRAP : PySem.W.nsIn K mainGlobals "SCRAP" = some (some (.str "scrap" tk_SCRAP)))
    (g_STRIPPED : PySem.W.nsIn K mainGlobals "STRIPPED" = some (some (.str "stripped" tk_STRIPPED)))
    (g_HOUSE : PySem.W.nsIn K mainGlobals "HOUSE" = some (some (.ref T_HOUSE)))
    (t_HOUSE : K.lookup T_HOUSE = some ⟨.type "tuple", to_HOUSE, .seq #[.str "making" tt_HOUSE_0, .str "made" tt_HOUSE_1, .str "bad" tt_HOUSE_2, .str "stock" tt_HOUSE_3] tn_HOUSE, ts_HOUSE⟩)
    (z_list : PySem.W.nsIn K mainGlobals "list" = some none)
    (z_max : PySem.W.nsIn K mainGlobals "max" = some none)
    (z_len : PySem.W.nsIn K mainGlobals "len" = some none)
    (z_all : PySem.W.nsIn K mainGlobals "all" = some none)
    (z_set : PySem.W.nsIn K mainGlobals "set" = some none)
    (z_enumerate : PySem.W.nsIn K mainGlobals "enumerate" = some none)
    (z_tuple : PySem.W.nsIn K mainGlobals "tuple" = some none)
    (z_sum : PySem.W.nsIn K mainGlobals "sum" = some none)
    (z_isinstance : PySem.W.nsIn K mainGlobals "isinstance" = some none)
    (z_str : PySem.W.nsIn K mainGlobals "str" = some none)
    (z_int : PySem.W.nsIn K mainGlobals "int" = some none)
    (z_bool : PySem.W.nsIn K mainGlobals "bool" = some none)
    (z_range : PySem.W.nsIn K mainGlobals "range" = some none)
    (z_min : PySem.W.nsIn K mainGlobals "min" = some none)
    : ∃ fd : FuncData, (∀ (s : Shared) (v : Value), BindsTo s fd ⟨[v], []⟩ [("_law_script", v)]) ∧ ∀ base : Heap, K.In base → base.Ns mainGlobals mg → FnOk l.prog w K mg base CX0 15 fa fd ["_law_script"] (spLaw K) := by
  have e := hfa.symm.trans (PySem.W.mg_of X G a_law)
  cases e
  have F__law_mix := fun_mk (st := s__law_mix) l__law_mix c__law_mix k__law_mix
  have m__law_mix := PySem.W.mg_of X G a__law_mix
  have F__law_next := fun_mk (st := s__law_next) l__law_next c__law_next k__law_next
  have m__law_next := PySem.W.mg_of X G a__law_next
  have F_is_name := fun_mk (st := s_is_name) l_is_name c_is_name k_is_name
  have m_is_name := PySem.W.mg_of X G a_is_name
  have F__law_alike := fun_mk (st := s__law_alike) l__law_alike c__law_alike k__law_alike
  have m__law_alike := PySem.W.mg_of X G a__law_alike
  have F_need_many := fun_mk (st := s_need_many) l_need_many c_need_many k_need_many
  have m_need_many := PySem.W.mg_of X G a_need_many
  have F_paid := fun_mk (st := s_paid) l_paid c_paid k_paid
  have m_paid := PySem.W.mg_of X G a_paid
  have F_cost := fun_mk (st := s_cost) l_cost c_cost k_cost
  have m_cost := PySem.W.mg_of X G a_cost
  have F_law := fun_mk (st := s_law) l_law c_law k_law
  have m_law := PySem.W.mg_of X G a_law
  have F_Parts_is_row := fun_mk (st := s_Parts_is_row) l_Parts_is_row c_Parts_is_row k_Parts_is_row
  have F_Parts_led_to := fun_mk (st := s_Parts_led_to) l_Parts_led_to c_Parts_led_to k_Parts_led_to
  have F_Parts___init__ := fun_mk (st := s_Parts___init__) l_Parts___init__ c_Parts___init__ k_Parts___init__
  have F_Parts_needs_of := fun_mk (st := s_Parts_needs_of) l_Parts_needs_of c_Parts_needs_of k_Parts_needs_of
  have F_Parts_steps_of := fun_mk (st := s_Parts_steps_of) l_Parts_steps_of c_Parts_steps_of k_Parts_steps_of
  have F_Parts_is_bought := fun_mk (st := s_Parts_is_bought) l_Parts_is_bought c_Parts_is_bought k_Parts_is_bought
  have F_Parts_need_part := fun_mk (st := s_Parts_need_part) l_Parts_need_part c_Parts_need_part k_Parts_need_part
  have cl_Parts : Cls K C_Parts := ⟨pg_Parts, hd_Parts, po_Parts, sa_Parts⟩
  have mC_Parts := PySem.W.mg_of X G aC_Parts
  have F_Floor___init__ := fun_mk (st := s_Floor___init__) l_Floor___init__ c_Floor___init__ k_Floor___init__
  have F_Floor_piece := fun_mk (st := s_Floor_piece) l_Floor_piece c_Floor_piece k_Floor_piece
  have F_Floor_work := fun_mk (st := s_Floor_work) l_Floor_work c_Floor_work k_Floor_work
  have F_Floor_test := fun_mk (st := s_Floor_test) l_Floor_test c_Floor_test k_Floor_test
  have F_Floor_rework := fun_mk (st := s_Floor_rework) l_Floor_rework c_Floor_rework k_Floor_rework
  have F_Floor_state_of := fun_mk (st := s_Floor_state_of) l_Floor_state_of c_Floor_state_of k_Floor_state_of
  have F_Floor_lots_for := fun_mk (st := s_Floor_lots_for) l_Floor_lots_for c_Floor_lots_for k_Floor_lots_for
  have F_Floor_pieces_for := fun_mk (st := s_Floor_pieces_for) l_Floor_pieces_for c_Floor_pieces_for k_Floor_pieces_for
  have F_Floor_hold := fun_mk (st := s_Floor_hold) l_Floor_hold c_Floor_hold k_Floor_hold
  have F_Floor_put_in := fun_mk (st := s_Floor_put_in) l_Floor_put_in c_Floor_put_in k_Floor_put_in
  have F_Floor_begin := fun_mk (st := s_Floor_begin) l_Floor_begin c_Floor_begin k_Floor_begin
  have F_Floor_at_hand := fun_mk (st := s_Floor_at_hand) l_Floor_at_hand c_Floor_at_hand k_Floor_at_hand
  have cl_Floor : Cls K C_Floor := ⟨pg_Floor, hd_Floor, po_Floor, sa_Floor⟩
  have mC_Floor := PySem.W.mg_of X G aC_Floor
  have F_Piece___init__ := fun_mk (st := s_Piece___init__) l_Piece___init__ c_Piece___init__ k_Piece___init__
  have cl_Piece : Cls K C_Piece := ⟨pg_Piece, hd_Piece, po_Piece, sa_Piece⟩
  have mC_Piece := PySem.W.mg_of X G aC_Piece
  have c_MOST_SIGNS : GlI mg "MOST_SIGNS" 8 := ⟨_, PySem.W.mg_of X G g_MOST_SIGNS⟩
  have c_MOST_LOT : GlI mg "MOST_LOT" 99 := ⟨_, PySem.W.mg_of X G g_MOST_LOT⟩
  have c_MOST_LEAD : GlI mg "MOST_LEAD" 30 := ⟨_, PySem.W.mg_of X G g_MOST_LEAD⟩
  have c_MOST_NEED : GlI mg "MOST_NEED" 9 := ⟨_, PySem.W.mg_of X G g_MOST_NEED⟩
  have c_MOST_STEPS : GlI mg "MOST_STEPS" 5 := ⟨_, PySem.W.mg_of X G g_MOST_STEPS⟩
  have c_MACHINES : GlI mg "MACHINES" 6 := ⟨_, PySem.W.mg_of X G g_MACHINES⟩
  have c_MOST_MINUTES : GlI mg "MOST_MINUTES" 99 := ⟨_, PySem.W.mg_of X G g_MOST_MINUTES⟩
  have c_MOST_PARTS : GlI mg "MOST_PARTS" 12 := ⟨_, PySem.W.mg_of X G g_MOST_PARTS⟩
  have c_MOST_LED : GlI mg "MOST_LED" 200 := ⟨_, PySem.W.mg_of X G g_MOST_LED⟩
  have c_MOST_RATE : GlI mg "MOST_RATE" 99 := ⟨_, PySem.W.mg_of X G g_MOST_RATE⟩
  have c_LETTERS : GlS mg "LETTERS" letters := ⟨_, PySem.W.mg_of X G g_LETTERS⟩
  have c_MAKING : GlS mg "MAKING" "making" := ⟨_, PySem.W.mg_of X G g_MAKING⟩
  have c_MADE : GlS mg "MADE" "made" := ⟨_, PySem.W.mg_of X G g_MADE⟩
  have c_STOCK : GlS mg "STOCK" "stock" := ⟨_, PySem.W.mg_of X G g_STOCK⟩
  have c_BAD : GlS mg "BAD" "bad" := ⟨_, PySem.W.mg_of X G g_BAD⟩
  have c_WITHIN : GlS mg "WITHIN" "within" := ⟨_, PySem.W.mg_of X G g_WITHIN⟩
  have c_SOLD : GlS mg "SOLD" "sold" := ⟨_, PySem.W.mg_of X G g_SOLD⟩
  have c_SCRAP : GlS mg "SCRAP" "scrap" := ⟨_, PySem.W.mg_of X G g_SCRAP⟩
  have c_STRIPPED : GlS mg "STRIPPED" "stripped" := ⟨_, PySem.W.mg_of X G g_STRIPPED⟩
  have c_HOUSE : GlV mg "HOUSE" (.ref T_HOUSE) := ⟨_, PySem.W.mg_of X G g_HOUSE, rfl⟩
  have hTH : ∀ H, SqT K H T_HOUSE ((["making", "made", "bad", "stock"] : List Str).map V.str) := fun H => .inr ⟨_, _, _, t_HOUSE, rfl, rfl, (by show 4 ≤ sizeLine; decide), .cons ⟨_, rfl⟩ (.cons ⟨_, rfl⟩ (.cons ⟨_, rfl⟩ (.cons ⟨_, rfl⟩ (.nil))))⟩
  have fk : FlK K C_Parts C_Floor C_Piece C_Piece := ⟨cl_Parts, cl_Floor, cl_Piece, cl_Piece, n_Parts_rows, n_Parts_led, n_Floor_book, n_Floor_rates, n_Floor_lots, n_Floor_pieces, n_Floor_notes, n_Floor_spent, n_Floor_lost, n_Piece_part, n_Piece_left, n_Piece_price, n_Piece_part, n_Piece_state, n_Piece_at, n_Piece_cost, n_Piece_lots, n_Piece_pieces, n_Piece_above, n_Piece_client⟩
  have n_list := PySem.W.mg_none_of X G z_list
  have n_max := PySem.W.mg_none_of X G z_max
  have n_len := PySem.W.mg_none_of X G z_len
  have n_all := PySem.W.mg_none_of X G z_all
  have n_set := PySem.W.mg_none_of X G z_set
  have n_enumerate := PySem.W.mg_none_of X G z_enumerate
  have n_tuple := PySem.W.mg_none_of X G z_tuple
  have n_sum := PySem.W.mg_none_of X G z_sum
  have n_isinstance := PySem.W.mg_none_of X G z_isinstance
  have n_str := PySem.W.mg_none_of X G z_str
  have n_int := PySem.W.mg_none_of X G z_int
  have n_bool := PySem.W.mg_none_of X G z_bool
  have n_range := PySem.W.mg_none_of X G z_range
  have n_min := PySem.W.mg_none_of X G z_min
  refine ⟨PySem.W.fnOf "law" "law" (defArgs s_law) (defBody s_law) (defScope s_law) .none kV_law dc_law pm_law an_law cd_law ct_law, fun s v => .of_eq rfl, fun base _ _ => ?_⟩
  have G__law_mix : FnG l.prog w K mg base 1 "_law_mix" ["_law_script", "_law_seed"] (spMix K) := ⟨_, _, ok__law_mix F__law_mix n_list, m__law_mix, k__law_mix, (F__law_mix.binds (ps := ["_law_script", "_law_seed"]) fun _ _ _ _ _ _ us hl => match us, hl with | [_, _], _ => rfl)⟩
  have G__law_next : FnG l.prog w K mg base 1 "_law_next" ["_law_h", "_law_many"] spNext := ⟨_, _, ok__law_next F__law_next n_max n_len, m__law_next, k__law_next, (F__law_next.binds (ps := ["_law_h", "_law_many"]) fun _ _ _ _ _ _ us hl => match us, hl with | [_, _], _ => rfl)⟩
  have G_is_name : FnG l.prog w K mg base 1 "is_name" ["word"] spIsName := ⟨_, _, ok_is_name F_is_name n_len n_all c_MOST_SIGNS c_LETTERS, m_is_name, k_is_name, (F_is_name.binds (ps := ["word"]) fun _ _ _ _ _ _ us hl => match us, hl with | [_], _ => rfl)⟩
  have G_is_row : MtG l.prog w K mg base 2 C_Parts "is_row" ["self", "row"] (spIsRow K C_Parts) := ⟨_, _, ok_is_row F_Parts_is_row G_is_name cl_Parts n_Parts_rows n_len n_all n_set c_MOST_LOT c_MOST_LEAD c_MOST_NEED c_MOST_STEPS c_MACHINES c_MOST_MINUTES, ⟨a_Parts_is_row, i_Parts_is_row, k_Parts_is_row⟩, (F_Parts_is_row.binds (ps := ["self", "row"]) fun _ _ _ _ _ _ us hl => match us, hl with | [_, _], _ => rfl), cl_Parts⟩
  have G_led_to : MtG l.prog w K mg base 1 C_Parts "led_to" ["self", "needs"] (spLedTo K C_Parts) := ⟨_, _, ok_led_to F_Parts_led_to cl_Parts n_Parts_rows n_Parts_led, ⟨a_Parts_led_to, i_Parts_led_to, k_Parts_led_to⟩, (F_Parts_led_to.binds (ps := ["self", "needs"]) fun _ _ _ _ _ _ us hl => match us, hl with | [_, _], _ => rfl), cl_Parts⟩
  have G_Parts : MkG l.prog w K mg base 3 C_Parts "Parts" ["self", "told"] (spPInit K C_Parts) := ⟨_, _, ok_parts_init F_Parts___init__ G_is_row G_led_to cl_Parts n_Parts_rows n_Parts_led n_enumerate n_tuple n_sum c_MOST_PARTS c_MOST_LED, ⟨mk_Parts, a_Parts___init__, i_Parts___init__, kc_Parts⟩, mC_Parts, (F_Parts___init__.binds (ps := ["self", "told"]) fun _ _ _ _ _ _ us hl => match us, hl with | [_, _], _ => rfl)⟩
  have G_alike : ∀ n, FnG l.prog w K mg base n "_law_alike" ["_law_found", "_law_due"] (spAl K n) := fun n => by
    induction n with
    | zero => exact ⟨_, _, ok__law_alike0, m__law_alike, k__law_alike, (F__law_alike.binds (ps := ["_law_found", "_law_due"]) fun _ _ _ _ _ _ us hl => match us, hl with | [_, _], _ => rfl)⟩
    | succ n ih => exact ⟨_, _, ok__law_alikeS F__law_alike ih n_isinstance n_tuple n_list n_str n_int n_bool n_len n_range, m__law_alike, k__law_alike, (F__law_alike.binds (ps := ["_law_found", "_law_due"]) fun _ _ _ _ _ _ us hl => match us, hl with | [_, _], _ => rfl)⟩
  have G__law_alike := G_alike 6
  have G_need_many : FnG l.prog w K mg base 1 "need_many" ["number", "low", "high"] spNeedMany := ⟨_, _, ok_need_many F_need_many, m_need_many, k_need_many, (F_need_many.binds (ps := ["number", "low", "high"]) fun _ _ _ _ _ _ us hl => match us, hl with | [_, _, _], _ => rfl)⟩
  have G_needs_of : MtG l.prog w K mg base 1 C_Parts "needs_of" ["self", "name"] (spNeedsOf K C_Parts) := ⟨_, _, ok_needs_of F_Parts_needs_of cl_Parts n_Parts_rows, ⟨a_Parts_needs_of, i_Parts_needs_of, k_Parts_needs_of⟩, (F_Parts_needs_of.binds (ps := ["self", "name"]) fun _ _ _ _ _ _ us hl => match us, hl with | [_, _], _ => rfl), cl_Parts⟩
  have G_steps_of : MtG l.prog w K mg base 1 C_Parts "steps_of" ["self", "name"] (spStepsOf K C_Parts) := ⟨_, _, ok_steps_of F_Parts_steps_of cl_Parts n_Parts_rows, ⟨a_Parts_steps_of, i_Parts_steps_of, k_Parts_steps_of⟩, (F_Parts_steps_of.binds (ps := ["self", "name"]) fun _ _ _ _ _ _ us hl => match us, hl with | [_, _], _ => rfl), cl_Parts⟩
  have G_is_bought : MtG l.prog w K mg base 2 C_Parts "is_bought" ["self", "name"] (spIsBought K C_Parts) := ⟨_, _, ok_is_bought F_Parts_is_bought G_needs_of G_steps_of cl_Parts, ⟨a_Parts_is_bought, i_Parts_is_bought, k_Parts_is_bought⟩, (F_Parts_is_bought.binds (ps := ["self", "name"]) fun _ _ _ _ _ _ us hl => match us, hl with | [_, _], _ => rfl), cl_Parts⟩
  have G_need_part : MtG l.prog w K mg base 1 C_Parts "need_part" ["self", "name"] (spNeedPart K C_Parts) := ⟨_, _, ok_need_part F_Parts_need_part cl_Parts n_Parts_rows, ⟨a_Parts_need_part, i_Parts_need_part, k_Parts_need_part⟩, (F_Parts_need_part.binds (ps := ["self", "name"]) fun _ _ _ _ _ _ us hl => match us, hl with | [_, _], _ => rfl), cl_Parts⟩
  have G_Piece : MkG l.prog w K mg base 1 C_Piece "Piece" ["self", "part"] (spPieceI C_Piece) := ⟨_, _, ok_piece_init F_Piece___init__ fk c_MAKING, ⟨mk_Piece, a_Piece___init__, i_Piece___init__, kc_Piece⟩, mC_Piece, (F_Piece___init__.binds (ps := ["self", "part"]) fun _ _ _ _ _ _ us hl => match us, hl with | [_, _], _ => rfl)⟩
  have G_Floor : MkG l.prog w K mg base 5 C_Floor "Floor" ["self", "parts", "rates"] (spFInit K C_Parts C_Floor C_Piece C_Piece) := ⟨_, _, ok_floor_init F_Floor___init__ G_Parts G_need_many fk n_len n_tuple c_MACHINES c_MOST_RATE, ⟨mk_Floor, a_Floor___init__, i_Floor___init__, kc_Floor⟩, mC_Floor, (F_Floor___init__.binds (ps := ["self", "parts", "rates"]) fun _ _ _ _ _ _ us hl => match us, hl with | [_, _, _], _ => rfl)⟩
  have G_piece : MtG l.prog w K mg base 1 C_Floor "piece" ["self", "number", "states"] (spPiece K C_Floor C_Piece) := ⟨_, _, ok_piece F_Floor_piece fk n_len, ⟨a_Floor_piece, i_Floor_piece, k_Floor_piece⟩, (F_Floor_piece.binds (ps := ["self", "number", "states"]) fun _ _ _ _ _ _ us hl => match us, hl with | [_, _, _], _ => rfl), cl_Floor⟩
  have G_work : MtG l.prog w K mg base 2 C_Floor "work" ["self", "number"] (spWork K C_Parts C_Floor C_Piece C_Piece) := ⟨_, _, ok_work F_Floor_work G_piece G_steps_of fk n_len c_MAKING c_MADE, ⟨a_Floor_work, i_Floor_work, k_Floor_work⟩, (F_Floor_work.binds (ps := ["self", "number"]) fun _ _ _ _ _ _ us hl => match us, hl with | [_, _], _ => rfl), cl_Floor⟩
  have G_test : MtG l.prog w K mg base 2 C_Floor "test" ["self", "number", "good"] (spTest K C_Parts C_Floor C_Piece C_Piece) := ⟨_, _, ok_test F_Floor_test G_piece fk c_MADE c_STOCK c_BAD, ⟨a_Floor_test, i_Floor_test, k_Floor_test⟩, (F_Floor_test.binds (ps := ["self", "number", "good"]) fun _ _ _ _ _ _ us hl => match us, hl with | [_, _, _], _ => rfl), cl_Floor⟩
  have G_rework : MtG l.prog w K mg base 2 C_Floor "rework" ["self", "number", "at"] (spRework K C_Parts C_Floor C_Piece C_Piece) := ⟨_, _, ok_rework F_Floor_rework G_piece G_need_many G_steps_of fk n_len c_MAKING c_BAD, ⟨a_Floor_rework, i_Floor_rework, k_Floor_rework⟩, (F_Floor_rework.binds (ps := ["self", "number", "at"]) fun _ _ _ _ _ _ us hl => match us, hl with | [_, _, _], _ => rfl), cl_Floor⟩
  have G_state_of : MtG l.prog w K mg base 2 C_Floor "state_of" ["self", "number"] (spStateOf K C_Parts C_Floor C_Piece C_Piece) := ⟨_, _, ok_state_of F_Floor_state_of G_piece fk c_HOUSE hTH c_WITHIN c_SOLD c_SCRAP c_STRIPPED, ⟨a_Floor_state_of, i_Floor_state_of, k_Floor_state_of⟩, (F_Floor_state_of.binds (ps := ["self", "number"]) fun _ _ _ _ _ _ us hl => match us, hl with | [_, _], _ => rfl), cl_Floor⟩
  have G_lots_for : MtG l.prog w K mg base 1 C_Floor "lots_for" ["self", "part", "many"] (spLotsFor K C_Floor C_Piece C_Piece) := ⟨_, _, ok_lots_for F_Floor_lots_for fk n_enumerate n_min, ⟨a_Floor_lots_for, i_Floor_lots_for, k_Floor_lots_for⟩, (F_Floor_lots_for.binds (ps := ["self", "part", "many"]) fun _ _ _ _ _ _ us hl => match us, hl with | [_, _, _], _ => rfl), cl_Floor⟩
  have G_pieces_for : MtG l.prog w K mg base 1 C_Floor "pieces_for" ["self", "part", "many"] (spPiecesFor K C_Floor C_Piece C_Piece) := ⟨_, _, ok_pieces_for F_Floor_pieces_for fk n_enumerate n_len c_STOCK, ⟨a_Floor_pieces_for, i_Floor_pieces_for, k_Floor_pieces_for⟩, (F_Floor_pieces_for.binds (ps := ["self", "part", "many"]) fun _ _ _ _ _ _ us hl => match us, hl with | [_, _, _], _ => rfl), cl_Floor⟩
  have G_hold : MtG l.prog w K mg base 1 C_Floor "hold" ["self", "number", "piece", "other"] (spHold C_Floor C_Piece C_Piece) := ⟨_, _, ok_hold F_Floor_hold fk c_WITHIN, ⟨a_Floor_hold, i_Floor_hold, k_Floor_hold⟩, (F_Floor_hold.binds (ps := ["self", "number", "piece", "other"]) fun _ _ _ _ _ _ us hl => match us, hl with | [_, _, _, _], _ => rfl), cl_Floor⟩
  have G_put_in : MtG l.prog w K mg base 2 C_Floor "put_in" ["self", "number", "piece", "some"] (spPutIn K C_Floor C_Piece C_Piece) := ⟨_, _, ok_put_in F_Floor_put_in G_hold fk n_isinstance n_list, ⟨a_Floor_put_in, i_Floor_put_in, k_Floor_put_in⟩, (F_Floor_put_in.binds (ps := ["self", "number", "piece", "some"]) fun _ _ _ _ _ _ us hl => match us, hl with | [_, _, _, _], _ => rfl), cl_Floor⟩
  have G_begin : MtG l.prog w K mg base 3 C_Floor "begin" ["self", "part"] (spBegin K C_Parts C_Floor C_Piece C_Piece) := ⟨_, _, ok_begin F_Floor_begin G_need_part G_is_bought G_needs_of G_steps_of G_lots_for G_pieces_for G_Piece G_put_in fk n_len c_MADE, ⟨a_Floor_begin, i_Floor_begin, k_Floor_begin⟩, (F_Floor_begin.binds (ps := ["self", "part"]) fun _ _ _ _ _ _ us hl => match us, hl with | [_, _], _ => rfl), cl_Floor⟩
  have G_paid : FnG l.prog w K mg base 1 "paid" ["floor"] (spPaid C_Floor) := ⟨_, _, ok_paid F_paid fk, m_paid, k_paid, (F_paid.binds (ps := ["floor"]) fun _ _ _ _ _ _ us hl => match us, hl with | [_], _ => rfl)⟩
  have G_cost : FnG l.prog w K mg base 3 "cost" ["floor", "number"] (spCost K C_Floor C_Piece C_Piece) := ⟨_, _, ok_cost F_cost G_state_of fk, m_cost, k_cost, (F_cost.binds (ps := ["floor", "number"]) fun _ _ _ _ _ _ us hl => match us, hl with | [_, _], _ => rfl)⟩
  have G_at_hand : MtG l.prog w K mg base 3 C_Floor "at_hand" ["self", "part"] (spAtHand K C_Parts C_Floor C_Piece C_Piece) := ⟨_, _, ok_at_hand F_Floor_at_hand G_need_part G_is_bought fk n_len n_sum c_STOCK, ⟨a_Floor_at_hand, i_Floor_at_hand, k_Floor_at_hand⟩, (F_Floor_at_hand.binds (ps := ["self", "part"]) fun _ _ _ _ _ _ us hl => match us, hl with | [_, _], _ => rfl), cl_Floor⟩
  exact ok_law F_law G__law_mix G__law_next G_Floor G_begin G_work G_test G_rework G_state_of G_at_hand G_cost G_paid G__law_alike n_range n_tuple n_list n_len n_int
theorem walk {l : PySem.W.OpenLaw} {q : Program} {loose : List Str} {XP : (Str → Option Value) → Heap → Prop} {YP : World → Heap → Prop} {d : DefRec} {K : Params → PySem.W.Frag} (hn : l.most = some 63) (hdf : d.params.defaults = [])
    (hY : ∀ (w : World) (h : Heap), YP w h → (K w.params).In h)
    (F : ∀ (w : World) (mg : Str → Option Value) (fa : Addr) (h : Heap), (K w.params).In h → h.Ns mainGlobals mg → mg d.name = some (.ref fa) →
      ∃ fd : FuncData, (∀ (s : Shared) (u : Value), BindsTo s fd ⟨[u], []⟩ [("_law_script", u)]) ∧ ∀ base : Heap, (K w.params).In base → base.Ns mainGlobals mg → FnOk l.prog w (K w.params) mg base CX0 15 fa fd ["_law_script"] (spLaw (K w.params))) :
    PySem.W.WalkO q loose XP YP l.row.toRowW d [] (fun f vs => PySem.call f vs) :=
  L2.walk_of (n := 63) (k := 15) (x := "_law_script") (CX := fun _ => CX0) (sp := fun w => spLaw (K w.params)) hn (by decide) hdf ⟨rfl, by decide, by decide⟩ hY F (fun _ _ a ns hl _ hS => ⟨a, ns, rfl, hS, hl, fun _ => rfl⟩) fun _ _ _ _ _ z => z
end LW
open PySem PySem.W PyProof.Rows
set_option maxRecDepth 100000 in
set_option maxHeartbeats 0 in
theorem PySem.Challenge.cw_partkin_k13_steps_done_and_done_again_holds : PySem.Challenge.rw_partkin_k13_steps_done_and_done_again.Holds := by
  w_on; o_law; k_head; (case hw => w_witness2)
  k_fill
  refine LW.walk (l := PySem.Challenge.rw_partkin_k13_steps_done_and_done_again) rfl rfl (fun w h Y => PySem.W.kIn_of Y) ?F
  case F =>
    intro w mg fa h KX G hmg
    refine' LW.all_mk KX G hmg ?a__law_mix ?l__law_mix ?c__law_mix ?k__law_mix ?a__law_next ?l__law_next ?c__law_next ?k__law_next ?a_is_name ?l_is_name ?c_is_name ?k_is_name ?a__law_alike ?l__law_alike ?c__law_alike ?k__law_alike ?a_need_many ?l_need_many ?c_need_many ?k_need_many ?a_paid ?l_paid ?c_paid ?k_paid ?a_cost ?l_cost ?c_cost ?k_cost ?a_law ?l_law ?c_law ?k_law ?aC_Parts ?a_Parts_is_row ?i_Parts_is_row ?l_Parts_is_row ?c_Parts_is_row ?k_Parts_is_row ?a_Parts_led_to ?i_Parts_led_to ?l_Parts_led_to ?c_Parts_led_to ?k_Parts_led_to ?a_Parts___init__ ?i_Parts___init__ ?l_Parts___init__ ?c_Parts___init__ ?k_Parts___init__ ?a_Parts_needs_of ?i_Parts_needs_of ?l_Parts_needs_of ?c_Parts_needs_of ?k_Parts_needs_of ?a_Parts_steps_of ?i_Parts_steps_of ?l_Parts_steps_of ?c_Parts_steps_of ?k_Parts_steps_of ?a_Parts_is_bought ?i_Parts_is_bought ?l_Parts_is_bought ?c_Parts_is_bought ?k_Parts_is_bought ?a_Parts_need_part ?i_Parts_need_part ?l_Parts_need_part ?c_Parts_need_part ?k_Parts_need_part ?pg_Parts ?hd_Parts ?po_Parts ?sa_Parts ?mk_Parts ?kc_Parts ?n_Parts_rows ?n_Parts_led ?aC_Floor ?a_Floor___init__ ?i_Floor___init__ ?l_Floor___init__ ?c_Floor___init__ ?k_Floor___init__ ?a_Floor_piece ?i_Floor_piece ?l_Floor_piece ?c_Floor_piece ?k_Floor_piece ?a_Floor_work ?i_Floor_work ?l_Floor_work ?c_Floor_work ?k_Floor_work ?a_Floor_test ?i_Floor_test ?l_Floor_test ?c_Floor_test ?k_Floor_test ?a_Floor_rework ?i_Floor_rework ?l_Floor_rework ?c_Floor_rework ?k_Floor_rework ?a_Floor_state_of ?i_Floor_state_of ?l_Floor_state_of ?c_Floor_state_of ?k_Floor_state_of ?a_Floor_lots_for ?i_Floor_lots_for ?l_Floor_lots_for ?c_Floor_lots_for ?k_Floor_lots_for ?a_Floor_pieces_for ?i_Floor_pieces_for ?l_Floor_pieces_for ?c_Floor_pieces_for ?k_Floor_pieces_for ?a_Floor_hold ?i_Floor_hold ?l_Floor_hold ?c_Floor_hold ?k_Floor_hold ?a_Floor_put_in ?i_Floor_put_in ?l_Floor_put_in ?c_Floor_put_in ?k_Floor_put_in ?a_Floor_begin ?i_Floor_begin ?l_Floor_begin ?c_Floor_begin ?k_Floor_begin ?a_Floor_at_hand ?i_Floor_at_hand ?l_Floor_at_hand ?c_Floor_at_hand ?k_Floor_at_hand ?pg_Floor ?hd_Floor ?po_Floor ?sa_Floor ?mk_Floor ?kc_Floor ?n_Floor_book ?n_Floor_rates ?n_Floor_lots ?n_Floor_pieces ?n_Floor_notes ?n_Floor_spent ?n_Floor_lost ?aC_Piece ?a_Piece___init__ ?i_Piece___init__ ?l_Piece___init__ ?c_Piece___init__ ?k_Piece___init__ ?pg_Piece ?hd_Piece ?po_Piece ?sa_Piece ?mk_Piece ?kc_Piece ?n_Piece_part ?n_Piece_left ?n_Piece_price ?n_Piece_state ?n_Piece_at ?n_Piece_cost ?n_Piece_lots ?n_Piece_pieces ?n_Piece_above ?n_Piece_client ?g_MOST_SIGNS ?g_MOST_LOT ?g_MOST_LEAD ?g_MOST_NEED ?g_MOST_STEPS ?g_MACHINES ?g_MOST_MINUTES ?g_MOST_PARTS ?g_MOST_LED ?g_MOST_RATE ?g_LETTERS ?g_MAKING ?g_MADE ?g_STOCK ?g_BAD ?g_WITHIN ?g_SOLD ?g_SCRAP ?g_STRIPPED ?g_HOUSE ?t_HOUSE ?z_list ?z_max ?z_len ?z_all ?z_set ?z_enumerate ?z_tuple ?z_sum ?z_isinstance ?z_str ?z_int ?z_bool ?z_range ?z_min
    (case a__law_mix => k_is)
    (case l__law_mix => k_is)
    (case c__law_mix => k_is)
    (case k__law_mix => k_is)
    (case a__law_next => k_is)
    (case l__law_next => k_is)
    (case c__law_next => k_is)
    (case k__law_next => k_is)
    (case a_is_name => k_is)
    (case l_is_name => k_is)
    (case c_is_name => k_is)
    (case k_is_name => k_is)
    (case a__law_alike => k_is)
    (case l__law_alike => k_is)
    (case c__law_alike => k_is)
    (case k__law_alike => k_is)
    (case a_need_many => k_is)
    (case l_need_many => k_is)
    (case c_need_many => k_is)
    (case k_need_many => k_is)
    (case a_paid => k_is)
    (case l_paid => k_is)
    (case c_paid => k_is)
    (case k_paid => k_is)
    (case a_cost => k_is)
    (case l_cost => k_is)
    (case c_cost => k_is)
    (case k_cost => k_is)
    (case a_law => k_is)
    (case l_law => k_is)
    (case c_law => k_is)
    (case k_law => k_is)
    (case aC_Parts => k_is)
    (case a_Parts_is_row => k_is)
    (case i_Parts_is_row => k_is)
    (case l_Parts_is_row => k_is)
    (case c_Parts_is_row => k_is)
    (case k_Parts_is_row => k_is)
    (case a_Parts_led_to => k_is)
    (case i_Parts_led_to => k_is)
    (case l_Parts_led_to => k_is)
    (case c_Parts_led_to => k_is)
    (case k_Parts_led_to => k_is)
    (case a_Parts___init__ => k_is)
    (case i_Parts___init__ => k_is)
    (case l_Parts___init__ => k_is)
    (case c_Parts___init__ => k_is)
    (case k_Parts___init__ => k_is)
    (case a_Parts_needs_of => k_is)
    (case i_Parts_needs_of => k_is)
    (case l_Parts_needs_of => k_is)
    (case c_Parts_needs_of => k_is)
    (case k_Parts_needs_of => k_is)
    (case a_Parts_steps_of => k_is)
    (case i_Parts_steps_of => k_is)
    (case l_Parts_steps_of => k_is)
    (case c_Parts_steps_of => k_is)
    (case k_Parts_steps_of => k_is)
    (case a_Parts_is_bought => k_is)
    (case i_Parts_is_bought => k_is)
    (case l_Parts_is_bought => k_is)
    (case c_Parts_is_bought => k_is)
    (case k_Parts_is_bought => k_is)
    (case a_Parts_need_part => k_is)
    (case i_Parts_need_part => k_is)
    (case l_Parts_need_part => k_is)
    (case c_Parts_need_part => k_is)
    (case k_Parts_need_part => k_is)
    (case pg_Parts => k_is)
    (case hd_Parts => k_is)
    (case po_Parts => k_is)
    (case sa_Parts => k_is)
    (case mk_Parts => k_is)
    (case kc_Parts => k_is)
    (case n_Parts_rows => k_is)
    (case n_Parts_led => k_is)
    (case aC_Floor => k_is)
    (case a_Floor___init__ => k_is)
    (case i_Floor___init__ => k_is)
    (case l_Floor___init__ => k_is)
    (case c_Floor___init__ => k_is)
    (case k_Floor___init__ => k_is)
    (case a_Floor_piece => k_is)
    (case i_Floor_piece => k_is)
    (case l_Floor_piece => k_is)
    (case c_Floor_piece => k_is)
    (case k_Floor_piece => k_is)
    (case a_Floor_work => k_is)
    (case i_Floor_work => k_is)
    (case l_Floor_work => k_is)
    (case c_Floor_work => k_is)
    (case k_Floor_work => k_is)
    (case a_Floor_test => k_is)
    (case i_Floor_test => k_is)
    (case l_Floor_test => k_is)
    (case c_Floor_test => k_is)
    (case k_Floor_test => k_is)
    (case a_Floor_rework => k_is)
    (case i_Floor_rework => k_is)
    (case l_Floor_rework => k_is)
    (case c_Floor_rework => k_is)
    (case k_Floor_rework => k_is)
    (case a_Floor_state_of => k_is)
    (case i_Floor_state_of => k_is)
    (case l_Floor_state_of => k_is)
    (case c_Floor_state_of => k_is)
    (case k_Floor_state_of => k_is)
    (case a_Floor_lots_for => k_is)
    (case i_Floor_lots_for => k_is)
    (case l_Floor_lots_for => k_is)
    (case c_Floor_lots_for => k_is)
    (case k_Floor_lots_for => k_is)
    (case a_Floor_pieces_for => k_is)
    (case i_Floor_pieces_for => k_is)
    (case l_Floor_pieces_for => k_is)
    (case c_Floor_pieces_for => k_is)
    (case k_Floor_pieces_for => k_is)
    (case a_Floor_hold => k_is)
    (case i_Floor_hold => k_is)
    (case l_Floor_hold => k_is)
    (case c_Floor_hold => k_is)
    (case k_Floor_hold => k_is)
    (case a_Floor_put_in => k_is)
    (case i_Floor_put_in => k_is)
    (case l_Floor_put_in => k_is)
    (case c_Floor_put_in => k_is)
    (case k_Floor_put_in => k_is)
    (case a_Floor_begin => k_is)
    (case i_Floor_begin => k_is)
    (case l_Floor_begin => k_is)
    (case c_Floor_begin => k_is)
    (case k_Floor_begin => k_is)
    (case a_Floor_at_hand => k_is)
    (case i_Floor_at_hand => k_is)
    (case l_Floor_at_hand => k_is)
    (case c_Floor_at_hand => k_is)
    (case k_Floor_at_hand => k_is)
    (case pg_Floor => k_is)
    (case hd_Floor => k_is)
    (case po_Floor => k_is)
    (case sa_Floor => k_is)
    (case mk_Floor => k_is)
    (case kc_Floor => k_is)
    (case n_Floor_book => k_is)
    (case n_Floor_rates => k_is)
    (case n_Floor_lots => k_is)
    (case n_Floor_pieces => k_is)
    (case n_Floor_notes => k_is)
    (case n_Floor_spent => k_is)
    (case n_Floor_lost => k_is)
    (case aC_Piece => k_is)
    (case a_Piece___init__ => k_is)
    (case i_Piece___init__ => k_is)
    (case l_Piece___init__ => k_is)
    (case c_Piece___init__ => k_is)
    (case k_Piece___init__ => k_is)
    (case pg_Piece => k_is)
    (case hd_Piece => k_is)
    (case po_Piece => k_is)
    (case sa_Piece => k_is)
    (case mk_Piece => k_is)
    (case kc_Piece => k_is)
    (case n_Piece_part => k_is)
    (case n_Piece_left => k_is)
    (case n_Piece_price => k_is)
    (case n_Piece_state => k_is)
    (case n_Piece_at => k_is)
    (case n_Piece_cost => k_is)
    (case n_Piece_lots => k_is)
    (case n_Piece_pieces => k_is)
    (case n_Piece_above => k_is)
    (case n_Piece_client => k_is)
    (case g_MOST_SIGNS => k_is)
    (case g_MOST_LOT => k_is)
    (case g_MOST_LEAD => k_is)
    (case g_MOST_NEED => k_is)
    (case g_MOST_STEPS => k_is)
    (case g_MACHINES => k_is)
    (case g_MOST_MINUTES => k_is)
    (case g_MOST_PARTS => k_is)
    (case g_MOST_LED => k_is)
    (case g_MOST_RATE => k_is)
    (case g_LETTERS => k_is)
    (case g_MAKING => k_is)
    (case g_MADE => k_is)
    (case g_STOCK => k_is)
    (case g_BAD => k_is)
    (case g_WITHIN => k_is)
    (case g_SOLD => k_is)
    (case g_SCRAP => k_is)
    (case g_STRIPPED => k_is)
    (case g_HOUSE => k_is)
    (case t_HOUSE => k_is)
    (case z_list => k_is)
    (case z_max => k_is)
    (case z_len => k_is)
    (case z_all => k_is)
    (case z_set => k_is)
    (case z_enumerate => k_is)
    (case z_tuple => k_is)
    (case z_sum => k_is)
    (case z_isinstance => k_is)
    (case z_str => k_is)
    (case z_int => k_is)
    (case z_bool => k_is)
    (case z_range => k_is)
    (case z_min => k_is)
