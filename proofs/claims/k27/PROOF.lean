import PyProof.Rows.All
import Wide.All
import OpenK.AllK
import Wide.FinOn
import HandS.ForMost
import HandS.ForExc
import HandS.DictComp
import HandS.IsInst
import HandS.Walk
import HandS.StrMore
import HandS.SetKeys
import HandS.Zip
import HandS.TryOnly
import HandS.Style
import HandS.Defaults
import HandS.Sort
import KE.GoesEnum
import PySem.Challenge.RW_partkin_k27_books_written_and_read
set_option Elab.async false
set_option maxRecDepth 100000
set_option linter.all false
set_option maxHeartbeats 8000000

/-! the layer of weakest readings, and of what a heap is known to hold -/
namespace WK
open PySem PySem.Spec PyProof.Rows L2

/-! ### weakest readings, the same in a def and in a comprehension's block -/
/-- what contexts of one def have alike -/
def Al (P : Program) (w : World) (K : PySem.W.Frag) (X : Cx) : Prop := X.prog = P ∧ X.w = w ∧ X.K = K ∧ X.calm = true ∧ X.A.units + 100 < cLine
theorem al_of {P : Program} {w : World} {K : PySem.W.Frag} {X : Cx} {k : Nat} (hr : Room k X.A) (h1 : X.prog = P := by rfl) (h2 : X.w = w := by rfl) (h3 : X.K = K := by rfl) (h4 : X.calm = true := by rfl) : Al P w K X :=
  ⟨h1, h2, h3, h4, by have := hr.un; omega⟩
section
variable (P : Program) (w : World) (K : PySem.W.Frag)
def OpU (f : Value → Value → Sem Value) : R2 := fun x y H Q => ∀ X pins s σ v u, Al P w K X → Inv X pins σ H s → RelV x v → RelV y u → wpAny (model X.prog X.w) X.A (f v u) (EP X pins σ Q) X.xe s
def IxU : R2 := fun x y H Q => ∀ (value slice : Expr) X pins s σ v u, Al P w K X → Inv X pins σ H s → RelV x v → RelV y u → subscripted slice false v u = operate [v, u] (getItem v u) →
  wpAny (model X.prog X.w) X.A (subscriptTail value slice v u) (EP X pins σ Q) X.xe s
def GetU : V → V → Hp → VK → Prop := fun x y H Q => ∀ X pins s σ v u, Al P w K X → Inv X pins σ H s → RelV x v → RelV y u → wpAny (model X.prog X.w) X.A (getItem v u) (EP X pins σ Q) X.xe s
def SetU : TSet := fun o i v H Q => ∀ X pins s σ ov iv u, Al P w K X → Inv X pins σ H s → RelV o ov → RelV i iv → RelV v u → wpAny (model X.prog X.w) X.A (setItem ov iv u) (fun _ s' => ∃ H', Inv X pins σ H' s' ∧ Q H') X.xe s
def IpU (op : Operator) : TIp := fun x y H Q => ∀ X pins s σ v u, Al P w K X → Inv X pins σ H s → RelV x v → RelV y u → wpAny (model X.prog X.w) X.A (inplaceOp op v u) (EP X pins σ Q) X.xe s
def CallU (f : Value) : List V → Hp → VK → Prop := fun xs H Q => ∀ X pins s σ us, Al P w K X → Inv X pins σ H s → Vals xs us → wpAny (model X.prog X.w) X.A (call f us) (EP X pins σ Q) X.xe s
def MetU (id : String) : V → List V → Hp → VK → Prop := fun x xs H Q => ∀ X pins s σ v us, Al P w K X → Inv X pins σ H s → RelV x v → Vals xs us → wpAny (model X.prog X.w) X.A (call (.builtin id) (v :: us)) (EP X pins σ Q) X.xe s
def TruU : V → Hp → (Bool → Hp → Prop) → Prop := fun x H Q => ∀ X pins s σ v, Al P w K X → Inv X pins σ H s → RelV x v → wpAny (model X.prog X.w) X.A (truthy v) (TP X pins σ Q) X.xe s
def SlU : V → Option Int → Option Int → Hp → VK → Prop := fun x lo hi H Q => ∀ X pins s σ v vl vu sl, Al P w K X → Inv X pins σ H s → RelV x v → s.heap.IsSliceOf sl vl vu .none → IsPart vl lo → IsPart vu hi →
    ∃ T id, typeLookup (.type T) "__getitem__" = pure (some (.builtin id)) ∧ s.TypeIs v T ∧ wpAny (model X.prog X.w) X.A (getItem v (.ref sl)) (EP X pins σ Q) X.xe s
def ItU (tg : Expr) : V → Hp → (It → Hp → Prop) → Prop := fun x H R => ∀ X pins s σ v, Al P w K X → Inv X pins σ H s → RelV x v → wpAny (model X.prog X.w) X.A (pyIter v) (PIE X pins σ tg R) X.xe s
end
section
variable {P : Program} {w : World} {K : PySem.W.Frag} {X : Cx}
theorem opU {f} (al : Al P w K X) : OpR X f (OpU P w K f) := fun pins s σ H x y v u Q I r1 r2 h => h X pins s σ v u al I r1 r2
theorem ixU (al : Al P w K X) : IxR X (IxU P w K) := fun value slice pins s σ H x y v u Q I r1 r2 h hs => h value slice X pins s σ v u al I r1 r2 hs
theorem getU (al : Al P w K X) : PGet X (GetU P w K) := fun pins s σ H o i ov iv Q I r1 r2 h => h X pins s σ ov iv al I r1 r2
theorem setU (al : Al P w K X) : PSet X (SetU P w K) := fun pins s σ H o i v ov iv u Q I r1 r2 r3 h => h X pins s σ ov iv u al I r1 r2 r3
theorem ipU {op} (al : Al P w K X) : PIp X op (IpU P w K op) := fun pins s σ H x y v u Q I r1 r2 h => h X pins s σ v u al I r1 r2
theorem callU {f} (al : Al P w K X) : CallR X f (CallU P w K f) := fun pins s σ H xs us Q I r h => h X pins s σ us al I r
theorem metU {id} (al : Al P w K X) : MtR X id (MetU P w K id) := fun pins s σ H x xs v us Q I r rs h => h X pins s σ v us al I r rs
theorem truU (al : Al P w K X) : TruR X (TruU P w K) := fun pins s σ H x v Q I r h => h X pins s σ v al I r
theorem slU (al : Al P w K X) : SlR X (SlU P w K) := fun pins s σ H x v vl vu lo hi sl Q I r1 h1 h2 h3 h => h X pins s σ v vl vu sl al I r1 h1 h2 h3
/-- what is walked, by its value -/
def iVal (P : Program) (w : World) (K : PySem.W.Frag) (tg : Expr) (te : TE) : TI := fun σ H R => te σ H fun v H1 => ItU P w K tg v H1 R
theorem pi_val {tg e : Expr} {te : TE} (al : Al P w K X) (he : PE X e te) : PI X tg e (iVal P w K tg te) := by
  refine ⟨fun pins s σ H R I h => ?_⟩
  exact thn (he.run pins s σ H _ I h) fun v s1 ⟨x, H1, I1, r1, q1⟩ => q1 X pins s1 σ v al I1 r1
section
variable {x y z : V} {H : Hp} {Q : VK} {xs : List V}
theorem OpU.of {f} {r : R2} (h : ∀ X, Al P w K X → OpR X f r) (k : r x y H Q) : OpU P w K f x y H Q := fun X pins s σ v u al I r1 r2 => h X al pins s σ H x y v u Q I r1 r2 k
theorem IxU.of {r : R2} (h : ∀ X, Al P w K X → IxR X r) (k : r x y H Q) : IxU P w K x y H Q := fun value slice X pins s σ v u al I r1 r2 hs => h X al value slice pins s σ H x y v u Q I r1 r2 k hs
theorem SetU.of {t : TSet} {Q : Hp → Prop} (h : ∀ X, Al P w K X → PSet X t) (k : t x y z H Q) : SetU P w K x y z H Q := fun X pins s σ ov iv u al I r1 r2 r3 => h X al pins s σ H x y z ov iv u Q I r1 r2 r3 k
theorem IpU.of {op} {t : TIp} (h : ∀ X, Al P w K X → PIp X op t) (k : t x y H Q) : IpU P w K op x y H Q := fun X pins s σ v u al I r1 r2 => h X al pins s σ H x y v u Q I r1 r2 k
theorem CallU.of {f} {r : List V → Hp → VK → Prop} (h : ∀ X, Al P w K X → CallR X f r) (k : r xs H Q) : CallU P w K f xs H Q := fun X pins s σ us al I r1 => h X al pins s σ H xs us Q I r1 k
theorem MetU.of {id} {r : V → List V → Hp → VK → Prop} (h : ∀ X, Al P w K X → MtR X id r) (k : r x xs H Q) : MetU P w K id x xs H Q := fun X pins s σ v us al I r1 rs => h X al pins s σ H x xs v us Q I r1 rs k
theorem TruU.of {r : V → Hp → (Bool → Hp → Prop) → Prop} {Q : Bool → Hp → Prop} (h : ∀ X, Al P w K X → TruR X r) (k : r x H Q) : TruU P w K x H Q := fun X pins s σ v al I r1 => h X al pins s σ H x v Q I r1 k
theorem SlU.of {r : V → Option Int → Option Int → Hp → VK → Prop} {lo hi : Option Int} (h : ∀ X, Al P w K X → SlR X r) (k : r x lo hi H Q) : SlU P w K x lo hi H Q :=
  fun X pins s σ v vl vu sl al I r1 h1 h2 h3 => h X al pins s σ H x v vl vu lo hi sl Q I r1 h1 h2 h3 k
theorem OpU.ofK {f} {r : PySem.W.Frag → R2} (h : ∀ X, Al P w K X → OpR X f (r X.K)) (k : r K x y H Q) : OpU P w K f x y H Q := .of (fun X al => by have := h X al; rw [al.2.2.1] at this; exact this) k
theorem IxU.ofK {r : PySem.W.Frag → R2} (h : ∀ X, Al P w K X → IxR X (r X.K)) (k : r K x y H Q) : IxU P w K x y H Q := .of (fun X al => by have := h X al; rw [al.2.2.1] at this; exact this) k
theorem CallU.ofK {f} {r : PySem.W.Frag → List V → Hp → VK → Prop} (h : ∀ X, Al P w K X → CallR X f (r X.K)) (k : r K xs H Q) : CallU P w K f xs H Q := .of (fun X al => by have := h X al; rw [al.2.2.1] at this; exact this) k
theorem MetU.ofK {id} {r : PySem.W.Frag → V → List V → Hp → VK → Prop} (h : ∀ X, Al P w K X → MtR X id (r X.K)) (k : r K x xs H Q) : MetU P w K id x xs H Q := .of (fun X al => by have := h X al; rw [al.2.2.1] at this; exact this) k
theorem SlU.ofK {r : PySem.W.Frag → V → Option Int → Option Int → Hp → VK → Prop} {lo hi : Option Int} (h : ∀ X, Al P w K X → SlR X (r X.K)) (k : r K x lo hi H Q) : SlU P w K x lo hi H Q := .of (fun X al => by have := h X al; rw [al.2.2.1] at this; exact this) k
theorem TruU.ofK {r : PySem.W.Frag → V → Hp → (Bool → Hp → Prop) → Prop} {Q : Bool → Hp → Prop} (h : ∀ X, Al P w K X → TruR X (r X.K)) (k : r K x H Q) : TruU P w K x H Q := .of (fun X al => by have := h X al; rw [al.2.2.1] at this; exact this) k
theorem ItU.list {tg : Expr} {a : Addr} {xs : List V} {R : It → Hp → Prop} (h : SqL K H a xs) (k : R (Itl K a) H) : ItU P w K tg (.ref a) H R := by
  intro X pins s σ v al I r
  obtain ⟨rfl, rfl, rfl, hc, hu⟩ := al
  cases r
  obtain ⟨its, rv, p, hz⟩ := I.list h
  refine wpAny_pyIter_list p.isList ?_
  refine ⟨s.heap.objs.size, [s.heap.objs.size], _, _, H, rfl, I.kept (t' := s.toks) fun b o e => Heap.get?_push_of_some _ e, turn_list a _, ⟨_, Heap.get?_push_size _ rfl, rfl, rfl⟩, fun b hb => ?_, k⟩
  have e : b = s.heap.objs.size := by simpa using hb
  subst e
  exact I.fpOk (Nat.le_refl _) (I.hok.fresh (Nat.le_refl _))
theorem ItU.tup {tg : Expr} {a : Addr} {xs : List V} {R : It → Hp → Prop} (h : SqT K H a xs) (k : R (Itt K a) H) : ItU P w K tg (.ref a) H R := by
  intro X pins s σ v al I r
  obtain ⟨rfl, rfl, rfl, hc, hu⟩ := al
  cases r
  obtain ⟨its, rv, p, hz⟩ := I.tuple h
  refine wpAny_pyIter_tuple (show s.heap.IsTuple a its.toArray from p) ?_
  refine ⟨s.heap.objs.size, [s.heap.objs.size], _, _, H, rfl, I.kept (t' := s.toks) fun b o e => Heap.get?_push_of_some _ e, turn_tuple a _, ⟨_, Heap.get?_push_size _ rfl, rfl, rfl⟩, fun b hb => ?_, k⟩
  have e : b = s.heap.objs.size := by simpa using hb
  subst e
  exact I.fpOk (Nat.le_refl _) (I.hok.fresh (Nat.le_refl _))
end
end
end WK
namespace WK
open PySem PySem.Spec PyProof.Rows L2
theorem pg_tupU (K : PySem.W.Frag) {X : Cx} {es : List Expr} {k : Nat} {t : TGs} {n : Nat} {pos : Pos} (h : PGs X es t) (hK : X.K = K := by rfl) (hc : X.calm = true := by rfl) (hn : (assignEach es X.env).length = n := by rfl) (hst : (assignEach es X.env).findIdx? (·.1) = none := by rfl) :
    PG X (.Tuple es k pos) (gTup K n t) := by
  subst hK
  exact pg_tup hc h hn hst
theorem pe_fldU (K : PySem.W.Frag) {X : Cx} {e : Expr} {f : Str} {ta : TE} {pos : Pos} (he : PE X e ta) (hb : attributeBase e f X.env (eval e X.env) = eval e X.env) (hK : X.K = K := by rfl) : PE X (.Attribute e f pos) (tFld K ta f) := by
  subst hK
  exact pe_fld he hb
end WK

namespace WK
open PySem PySem.Spec PyProof.Rows L2

/-! ### what a heap is known to hold: B what stays, L what is one's own -/
abbrev Ex (H H' : Hp) : Prop := ∀ a o, H a = some o → H' a = some o
theorem Ex.refl (H : Hp) : Ex H H := fun _ _ h => h
theorem Ex.trans {H H1 H2 : Hp} (a : Ex H H1) (b : Ex H1 H2) : Ex H H2 := fun x o h => b x o (a x o h)
theorem Ex.new {H : Hp} {p : Addr} {o : HO} (h : H p = none) : Ex H (upd H p o) := fun a u e => by
  rw [upd_ne (ne_of_none e h)]
  exact e
theorem Ex.rd {H H' : Hp} {a : Addr} {u : HO} (e : Ex H H') (h : Rd H a u) : Rd H' a u := by
  rcases h with h | ⟨o, h⟩
  · exact Or.inl (e a _ h)
  · exact Or.inr ⟨o, e a _ h⟩
theorem Ex.sqL {K : PySem.W.Frag} {H H' : Hp} {a : Addr} {xs : List V} (e : Ex H H') (h : SqL K H a xs) : SqL K H' a xs := by
  rcases h with h | h
  · exact Or.inl (e.rd h)
  · exact Or.inr h
theorem Ex.sqT {K : PySem.W.Frag} {H H' : Hp} {a : Addr} {xs : List V} (e : Ex H H') (h : SqT K H a xs) : SqT K H' a xs := by
  rcases h with h | h
  · exact Or.inl (e.rd h)
  · exact Or.inr h
theorem Ex.ap {H H' : Hp} {a : Addr} {o : HO} (e : Ex H H') (h : H a = some o) : H' a = some o := e a o h

abbrev Led := List (Addr × HO)
structure Ent where
  B : Hp
  H : Hp
  A : List Addr
/-- F: how it was at an entry, and which addresses of it may change -/
structure Ok (F : Ent) (B : Hp) (L : Led) (H : Hp) : Prop where
  ex : Ex B H
  nd : (L.map (·.1)).Nodup
  own : ∀ p ∈ L, H p.1 = some p.2 ∧ B p.1 = none
  ex0 : Ex F.B B
  keep : ∀ a o, F.H a = some o → a ∉ F.A → H a = some o
  kA : ∀ a ∈ F.A, ∃ o, H a = some o
  fB : ∀ a o, B a = some o → (∃ u, F.B a = some u) ∨ F.H a = none ∨ a ∈ F.A
  fL : ∀ p ∈ L, p.1 ∈ F.A ∨ F.H p.1 = none
section
variable {F : Ent} {B H : Hp} {L L1 L2 : Led} {p : Addr} {o o' : HO}
theorem Ok.start (h : Ex B H) (nd : (L.map (·.1)).Nodup) (own : ∀ p ∈ L, H p.1 = some p.2 ∧ B p.1 = none) : Ok ⟨B, H, L.map (·.1)⟩ B L H where
  ex := h
  nd := nd
  own := own
  ex0 := Ex.refl _
  keep := fun _ _ e _ => e
  kA := fun a ha => by
    obtain ⟨q, hq, rfl⟩ := List.mem_map.mp ha
    exact ⟨_, (own q hq).1⟩
  fB := fun _ _ e => .inl ⟨_, e⟩
  fL := fun q hq => .inl (List.mem_map.mpr ⟨q, hq, rfl⟩)
theorem Ok.start0 (h : Ex B H) : Ok ⟨B, H, []⟩ B [] H := Ok.start (L := []) h List.nodup_nil (fun _ z => nomatch z)
theorem Ok.again (S : Ok F B L H) : Ok ⟨B, H, L.map (·.1)⟩ B L H := Ok.start S.ex S.nd S.own
theorem Ok.fresh (S : Ok F B L H) (hp : H p = none) : F.H p = none ∧ B p = none ∧ p ∉ L.map (·.1) := by
  refine ⟨?_, ?_, fun z => ?_⟩
  · cases e : F.H p with
    | none => rfl
    | some u =>
      by_cases ha : p ∈ F.A
      · obtain ⟨w, hw⟩ := S.kA p ha
        rw [hp] at hw
        cases hw
      · have := S.keep p u e ha
        rw [hp] at this
        cases this
  · cases e : B p with
    | none => rfl
    | some u =>
      have := S.ex p u e
      rw [hp] at this
      cases this
  · obtain ⟨q, hq, rfl⟩ := List.mem_map.mp z
    have := (S.own q hq).1
    rw [hp] at this
    cases this
theorem Ok.newL (S : Ok F B L H) (hp : H p = none) : Ok F B ((p, o) :: L) (upd H p o) := by
  obtain ⟨f0, f1, f2⟩ := S.fresh hp
  have ne : ∀ {a u}, H a = some u → a ≠ p := fun e => ne_of_none e hp
  refine ⟨fun a u e => ?_, List.nodup_cons.mpr ⟨f2, S.nd⟩, fun q hq => ?_, S.ex0, fun a u e h => ?_, fun a h => ?_, S.fB, fun q hq => ?_⟩
  · rw [upd_ne (ne (S.ex a u e))]; exact S.ex a u e
  · rcases List.mem_cons.mp hq with rfl | hq
    · exact ⟨upd_same, f1⟩
    · obtain ⟨e1, e2⟩ := S.own q hq
      exact ⟨by rw [upd_ne (ne e1)]; exact e1, e2⟩
  · have := S.keep a u e h
    rw [upd_ne (ne this)]; exact this
  · obtain ⟨u, e⟩ := S.kA a h
    exact ⟨u, by rw [upd_ne (ne e)]; exact e⟩
  · rcases List.mem_cons.mp hq with rfl | hq
    · exact .inr f0
    · exact S.fL q hq
/-- a thing that nobody tells of -/
theorem Ok.junk (S : Ok F B L H) (hp : H p = none) : Ok F B L (upd H p o) := by
  have S1 : Ok F B ((p, o) :: L) (upd H p o) := S.newL hp
  exact ⟨S1.ex, (List.nodup_cons.mp S1.nd).2, fun q hq => S1.own q (List.mem_cons_of_mem _ hq), S1.ex0, S1.keep, S1.kA, S1.fB, fun q hq => S1.fL q (List.mem_cons_of_mem _ hq)⟩
theorem Ok.perm (S : Ok F B L H) (h : L.Perm L1) : Ok F B L1 H :=
  ⟨S.ex, (h.map _).nodup_iff.mp S.nd, fun q hq => S.own q (h.mem_iff.mpr hq), S.ex0, S.keep, S.kA, S.fB, fun q hq => S.fL q (h.mem_iff.mpr hq)⟩
/-- the first of one's own is let go: it stays as it is from now on -/
theorem Ok.freeze (S : Ok F B ((p, o) :: L) H) : Ok F (upd B p o) L H := by
  obtain ⟨e1, e2⟩ := S.own _ (List.mem_cons_self ..)
  have nd := List.nodup_cons.mp S.nd
  have np : ∀ q ∈ L, q.1 ≠ p := fun q hq z => nd.1 (List.mem_map.mpr ⟨q, hq, z⟩)
  refine ⟨fun a u e => ?_, nd.2, fun q hq => ?_, fun a u e => ?_, S.keep, S.kA, fun a u e => ?_, fun q hq => S.fL q (List.mem_cons_of_mem _ hq)⟩
  · by_cases h : a = p
    · subst h
      rw [upd_same] at e
      cases e
      exact e1
    · rw [upd_ne h] at e
      exact S.ex a u e
  · obtain ⟨g1, g2⟩ := S.own q (List.mem_cons_of_mem _ hq)
    exact ⟨g1, by rw [upd_ne (np q hq)]; exact g2⟩
  · have := S.ex0 a u e
    rw [upd_ne (ne_of_none this e2)]; exact this
  · by_cases h : a = p
    · subst h
      rcases S.fL _ (List.mem_cons_self ..) with z | z
      · exact .inr (.inr z)
      · exact .inr (.inl z)
    · rw [upd_ne h] at e
      exact S.fB a u e
theorem Ok.exF (S : Ok F B ((p, o) :: L) H) : Ex B (upd B p o) := Ex.new (S.own _ (List.mem_cons_self ..)).2
theorem Ok.mut (S : Ok F B ((p, o) :: L) H) : Ok F B ((p, o') :: L) (upd H p o') := by
  obtain ⟨e1, e2⟩ := S.own _ (List.mem_cons_self ..)
  have nd := List.nodup_cons.mp S.nd
  have np : ∀ q ∈ L, q.1 ≠ p := fun q hq z => nd.1 (List.mem_map.mpr ⟨q, hq, z⟩)
  refine ⟨fun a u e => ?_, List.nodup_cons.mpr nd, fun q hq => ?_, S.ex0, fun a u e h => ?_, fun a h => ?_, S.fB, fun q hq => ?_⟩
  · rw [upd_ne (ne_of_none e e2)]; exact S.ex a u e
  · rcases List.mem_cons.mp hq with rfl | hq
    · exact ⟨upd_same, e2⟩
    · obtain ⟨g1, g2⟩ := S.own q (List.mem_cons_of_mem _ hq)
      exact ⟨by rw [upd_ne (np q hq)]; exact g1, g2⟩
  · rcases S.fL _ (List.mem_cons_self ..) with z | z
    · rw [upd_ne (fun y => h (by rw [y]; exact z))]; exact S.keep a u e h
    · rw [upd_ne (fun y => by rw [y] at e; rw [z] at e; cases e)]; exact S.keep a u e h
  · by_cases y : a = p
    · exact ⟨o', by rw [y]; exact upd_same⟩
    · rw [upd_ne y]; exact S.kA a h
  · rcases List.mem_cons.mp hq with rfl | hq
    · exact S.fL (p, o) (List.mem_cons_self ..)
    · exact S.fL q (List.mem_cons_of_mem _ hq)
/-- at any place of the ledger -/
theorem Ok.mutAt (S : Ok F B (L1 ++ (p, o) :: L2) H) : Ok F B (L1 ++ (p, o') :: L2) (upd H p o') :=
  ((S.perm List.perm_middle).mut (o' := o')).perm List.perm_middle.symm
theorem Ok.newB (S : Ok F B L H) (hp : H p = none) : Ok F (upd B p o) L (upd H p o) := (S.newL hp).freeze
theorem Ok.exB (S : Ok F B L H) (hp : H p = none) : Ex B (upd B p o) := Ex.new (S.fresh hp).2.1
/-- a call that may change L1 alone -/
theorem Ok.call {B' H' : Hp} {L1' : Led} (S : Ok F B (L1 ++ L2) H) (T : Ok ⟨B, H, L1.map (·.1)⟩ B' L1' H') : Ok F B' (L1' ++ L2) H' := by
  have nd := S.nd
  rw [List.map_append, List.nodup_append] at nd
  have na : ∀ q ∈ L2, q.1 ∉ L1.map (·.1) := fun q hq z => nd.2.2 _ z _ (List.mem_map.mpr ⟨q, hq, rfl⟩) rfl
  have k2 : ∀ q ∈ L2, H' q.1 = some q.2 ∧ B' q.1 = none := fun q hq => by
    obtain ⟨e1, e2⟩ := S.own q (List.mem_append_right _ hq)
    refine ⟨T.keep _ _ e1 (na q hq), ?_⟩
    cases e : B' q.1 with
    | none => rfl
    | some u =>
      rcases T.fB _ _ e with ⟨w, z⟩ | z | z
      · rw [show B q.1 = some w from z] at e2
        cases e2
      · rw [show H q.1 = none from z] at e1
        cases e1
      · exact absurd z (na q hq)
  have key : ∀ a, a ∈ L1.map (·.1) → a ∈ F.A ∨ F.H a = none := fun a ha => by
    obtain ⟨q, hq, rfl⟩ := List.mem_map.mp ha
    exact S.fL q (List.mem_append_left _ hq)
  refine ⟨T.ex, ?_, fun q hq => ?_, S.ex0.trans T.ex0, fun a u e h => ?_, fun a h => ?_, fun a u e => ?_, fun q hq => ?_⟩
  · rw [List.map_append, List.nodup_append]
    refine ⟨T.nd, nd.2.1, fun a ha b hb z => ?_⟩
    subst z
    obtain ⟨q, hq, rfl⟩ := List.mem_map.mp hb
    obtain ⟨q', hq', e'⟩ := List.mem_map.mp ha
    rcases T.fL q' hq' with y | y
    · exact na q hq (by rw [← e']; exact y)
    · have := (S.own q (List.mem_append_right _ hq)).1
      have y' : H q'.1 = none := y
      have e'' : q'.1 = q.1 := e'
      rw [e'', this] at y'
      cases y'
  · rcases List.mem_append.mp hq with hq | hq
    · exact T.own q hq
    · exact k2 q hq
  · refine T.keep a u (S.keep a u e h) fun z => ?_
    rcases key a z with y | y
    · exact h y
    · rw [y] at e
      cases e
  · obtain ⟨u, e⟩ := S.kA a h
    by_cases z : a ∈ L1.map (·.1)
    · exact T.kA a z
    · exact ⟨u, T.keep a u e z⟩
  · rcases T.fB a u e with ⟨w, z⟩ | z | z
    · exact S.fB a w z
    · refine .inr (.inl ?_)
      cases e' : F.H a with
      | none => rfl
      | some w =>
        by_cases y : a ∈ F.A
        · obtain ⟨v, hv⟩ := S.kA a y
          rw [show H a = none from z] at hv
          cases hv
        · have := S.keep a w e' y
          rw [show H a = none from z] at this
          cases this
    · rcases key a z with y | y
      · exact .inr (.inr y)
      · exact .inr (.inl y)
  · rcases List.mem_append.mp hq with hq | hq
    · rcases T.fL q hq with z | z
      · exact key _ z
      · refine .inr ?_
        cases e' : F.H q.1 with
        | none => rfl
        | some w =>
          by_cases y : q.1 ∈ F.A
          · obtain ⟨v, hv⟩ := S.kA _ y
            rw [show H q.1 = none from z] at hv
            cases hv
          · have := S.keep _ w e' y
            rw [show H q.1 = none from z] at this
            cases this
    · exact S.fL q (List.mem_append_right _ hq)
theorem Ok.callP {B' H' : Hp} (S : Ok F B L H) (T : Ok ⟨B, H, []⟩ B' [] H') : Ok F B' L H' := S.call (L1 := []) (L1' := []) T
/-- a call that hands out one's own things besides -/
theorem Ok.callN {B' H' : Hp} {L' : Led} (S : Ok F B L H) (T : Ok ⟨B, H, []⟩ B' L' H') : Ok F B' (L' ++ L) H' := S.call (L1 := []) (L1' := L') T
theorem Ok.at (S : Ok F B L H) {q : Addr × HO} (h : q ∈ L) : H q.1 = some q.2 := (S.own q h).1
theorem Ok.sqB {K : PySem.W.Frag} {a : Addr} {xs : List V} (S : Ok F B L H) (h : SqL K B a xs) : SqL K H a xs := S.ex.sqL h
theorem Ok.tqB {K : PySem.W.Frag} {a : Addr} {xs : List V} (S : Ok F B L H) (h : SqT K B a xs) : SqT K H a xs := S.ex.sqT h
/-- the ledger less what is no longer looked at -/
theorem Ok.drop (S : Ok F B ((p, o) :: L) H) : Ok F B L H :=
  ⟨S.ex, (List.nodup_cons.mp S.nd).2, fun q hq => S.own q (List.mem_cons_of_mem _ hq), S.ex0, S.keep, S.kA, S.fB, fun q hq => S.fL q (List.mem_cons_of_mem _ hq)⟩
end

end WK
namespace L2
open PySem PySem.Spec PyProof.Rows WK
/-! ### data -/
section
variable {K : PySem.W.Frag} {B B' : Hp}
mutual
theorem Dp.up (e : Ex B B') : ∀ {v : V} {d : PyData}, Dp K B v d → Dp K B' v d
  | _, _, .non => .non
  | _, _, .bl b => .bl b
  | _, _, .int i => .int i
  | _, _, .str x => .str x
  | _, _, .lst h a => .lst (e.sqL h) (DpAll.up e a)
  | _, _, .tup h a => .tup (e.sqT h) (DpAll.up e a)
theorem DpAll.up (e : Ex B B') : ∀ {vs : List V} {ds : List PyData}, DpAll K B vs ds → DpAll K B' vs ds
  | _, _, .nil => .nil
  | _, _, .cons h t => .cons (Dp.up e h) (DpAll.up e t)
end
theorem Dp.int_inv {v : V} {i : Int} (h : Dp K B v (.int i)) : v = .int i := by cases h; rfl
theorem Dp.str_inv {v : V} {x : Str} (h : Dp K B v (.str x)) : v = .str x := by cases h; rfl
theorem Dp.bl_inv {v : V} {x : Bool} (h : Dp K B v (.bool x)) : v = .bl x := by cases h; rfl
theorem Dp.non_inv {v : V} (h : Dp K B v .none) : v = .non := by cases h; rfl
theorem Dp.tup_inv {v : V} {ds : List PyData} (h : Dp K B v (.tuple ds)) : ∃ a xs, v = .ref a ∧ SqT K B a xs ∧ DpAll K B xs ds := by
  cases h with
  | tup h a => exact ⟨_, _, rfl, h, a⟩
theorem Dp.lst_inv {v : V} {ds : List PyData} (h : Dp K B v (.list ds)) : ∃ a xs, v = .ref a ∧ SqL K B a xs ∧ DpAll K B xs ds := by
  cases h with
  | lst h a => exact ⟨_, _, rfl, h, a⟩
theorem DpAll.nil_inv {vs : List V} (h : DpAll K B vs []) : vs = [] := by cases h; rfl
theorem DpAll.cons_inv {vs : List V} {d : PyData} {ds : List PyData} (h : DpAll K B vs (d :: ds)) : ∃ v r, vs = v :: r ∧ Dp K B v d ∧ DpAll K B r ds := by
  cases h with
  | cons h t => exact ⟨_, _, rfl, h, t⟩
theorem DpAll.length : ∀ {vs : List V} {ds : List PyData}, DpAll K B vs ds → vs.length = ds.length
  | _, _, .nil => rfl
  | _, _, .cons _ t => congrArg (· + 1) (DpAll.length t)
theorem DpAll.get : ∀ {vs : List V} {ds : List PyData}, DpAll K B vs ds → ∀ {i : Nat} {v : V}, vs[i]? = some v → ∃ d, ds[i]? = some d ∧ Dp K B v d
  | _, _, .nil, i, v, h => by simp at h
  | _, _, .cons h t, 0, v, e => by simp at e; subst e; exact ⟨_, rfl, h⟩
  | _, _, .cons h t, i + 1, v, e => by simpa using DpAll.get t (i := i) (by simpa using e)
theorem DpAll.get' : ∀ {vs : List V} {ds : List PyData}, DpAll K B vs ds → ∀ {i : Nat} {d : PyData}, ds[i]? = some d → ∃ v, vs[i]? = some v ∧ Dp K B v d
  | _, _, .nil, i, v, h => by simp at h
  | _, _, .cons h t, 0, v, e => by simp at e; subst e; exact ⟨_, rfl, h⟩
  | _, _, .cons h t, i + 1, v, e => by simpa using DpAll.get' t (i := i) (by simpa using e)
theorem DpAll.append : ∀ {vs ws : List V} {ds es : List PyData}, DpAll K B vs ds → DpAll K B ws es → DpAll K B (vs ++ ws) (ds ++ es)
  | _, _, _, _, .nil, s => s
  | _, _, _, _, .cons h t, s => .cons h (DpAll.append t s)
theorem DpAll.snoc {vs : List V} {v : V} {ds : List PyData} {d : PyData} (h : DpAll K B vs ds) (g : Dp K B v d) : DpAll K B (vs ++ [v]) (ds ++ [d]) := h.append (.cons g .nil)
theorem DpAll.ints : ∀ {vs : List V} {ns : List Int}, DpAll K B vs (ns.map PyData.int) → vs = ns.map V.int
  | _, [], .nil => rfl
  | _, n :: ns, .cons h t => by rw [Dp.int_inv h, DpAll.ints t]; rfl
theorem DpAll.strs : ∀ {vs : List V} {ns : List Str}, DpAll K B vs (ns.map PyData.str) → vs = ns.map V.str
  | _, [], .nil => rfl
  | _, n :: ns, .cons h t => by rw [Dp.str_inv h, DpAll.strs t]; rfl
theorem dpInts : ∀ (ns : List Int), DpAll K B (ns.map V.int) (ns.map PyData.int)
  | [] => .nil
  | n :: ns => .cons (.int n) (dpInts ns)
theorem dpStrs : ∀ (ns : List Str), DpAll K B (ns.map V.str) (ns.map PyData.str)
  | [] => .nil
  | n :: ns => .cons (.str n) (dpStrs ns)
theorem dpBools : ∀ (ns : List Bool), DpAll K B (ns.map V.bl) (ns.map PyData.bool)
  | [] => .nil
  | n :: ns => .cons (.bl n) (dpBools ns)
theorem DpAll.bools : ∀ {vs : List V} {ns : List Bool}, DpAll K B vs (ns.map PyData.bool) → vs = ns.map V.bl
  | _, [], .nil => rfl
  | _, n :: ns, .cons h t => by rw [Dp.bl_inv h, DpAll.bools t]; rfl
end
end L2

namespace WK
open PySem PySem.Spec PyProof.Rows L2

/-! ### reading by reading: what to show next -/
def BlQ (Q : Bool → Hp → Prop) (x : V) (H : Hp) : Prop := ∃ b, x = .bl b ∧ Q b H
def InQ (Q : Int → Hp → Prop) (x : V) (H : Hp) : Prop := ∃ i, x = .int i ∧ Q i H
def PrQ (Q : V → V → Hp → Prop) (vs : List V) (H : Hp) : Prop := ∃ v w, vs = [v, w] ∧ Q v w H
section
variable {X : Cx} {K : PySem.W.Frag} {σ : L2.St} {H : Hp} {Q : VK} {ta tb te tc : TE} {t u : TT}
theorem r_var {i : Nat} {v : V} (h : σ[i]? = some (some v)) (k : Q v H) : tVar i σ H Q := ⟨v, h, k⟩
theorem r_c {v : V} (k : Q v H) : tC v σ H Q := k
theorem r_op {r : R2} (k : ta σ H fun x H1 => tb σ H1 fun y H2 => r x y H2 Q) : tOp r ta tb σ H Q := k
theorem r_un {r : V → Hp → VK → Prop} (k : ta σ H fun x H1 => r x H1 Q) : tUn r ta σ H Q := k
theorem r_test {Q : Bool → Hp → Prop} (k : te σ H (BlQ Q)) : tTest te σ H Q := k
theorem r_B {Q : Bool → Hp → Prop} (k : te σ H (BlQ Q)) : tB te σ H Q := k
theorem r_bl {Q : Bool → Hp → Prop} {b : Bool} (k : Q b H) : BlQ Q (.bl b) H := ⟨b, rfl, k⟩
theorem r_and {Q : Bool → Hp → Prop} (k : t σ H fun c H1 => if c = true then u σ H1 Q else Q false H1) : tAnd t u σ H Q := k
theorem r_or {Q : Bool → Hp → Prop} (k : t σ H fun c H1 => if c = true then Q true H1 else u σ H1 Q) : tOr t u σ H Q := k
theorem r_not {Q : Bool → Hp → Prop} (k : t σ H fun c H1 => Q (!c) H1) : tNot t σ H Q := k
theorem r_andV (k : ta σ H (BlQ fun c H1 => if c = true then tb σ H1 Q else Q (.bl false) H1)) : tAndV ta tb σ H Q := k
theorem r_orV (k : ta σ H (BlQ fun c H1 => if c = true then Q (.bl true) H1 else tb σ H1 Q)) : tOrV ta tb σ H Q := k
theorem r_notV (k : ta σ H (BlQ fun c H1 => Q (.bl (!c)) H1)) : tNotV ta σ H Q := k
theorem r_if (k : t σ H fun c H1 => if c = true then ta σ H1 Q else tb σ H1 Q) : tIf t ta tb σ H Q := k
theorem r_nil {Q : List V → Hp → Prop} (k : Q [] H) : tNil σ H Q := k
theorem r_cons {tr : TA} {Q : List V → Hp → Prop} (k : te σ H fun x H1 => tr σ H1 fun xs H2 => Q (x :: xs) H2) : tCons te tr σ H Q := k
theorem r_cb {r : List V → Hp → VK → Prop} {ts : TA} (k : ts σ H fun vs H1 => r vs H1 Q) : tCB r ts σ H Q := k
theorem r_nopart {Q : Option Int → Hp → Prop} (k : Q none H) : tNoPart σ H Q := k
theorem r_part {Q : Option Int → Hp → Prop} (k : te σ H (InQ fun i H1 => Q (some i) H1)) : tPart te σ H Q := k
theorem r_in {Q : Int → Hp → Prop} {i : Int} (k : Q i H) : InQ Q (.int i) H := ⟨i, rfl, k⟩
theorem r_sl {r : V → Option Int → Option Int → Hp → VK → Prop} {tl th : TO} (k : te σ H fun x H1 => tl σ H1 fun l H2 => th σ H2 fun u H3 => r x l u H3 Q) : tSl r te tl th σ H Q := k
theorem r_chain {r r' : R2} (k : ta σ H fun x H1 => tb σ H1 fun y H2 => r x y H2 (BlQ fun k H3 => if k = true then tc σ H3 fun w H4 => r' y w H4 Q else Q (.bl false) H3)) : tChain r r' ta tb tc σ H Q := k
/-! statements -/
variable {D : Ends} {ts us : TS}
theorem r_seq (k : ts { D with nx := us D } σ H) : tSeq ts us D σ H := k
theorem r_next (k : D.nx σ H) : tNext D σ H := k
theorem r_asg {g : TG} (k : te σ H fun x H1 => g x σ H1 D.nx) : tAsg te g D σ H := k
theorem r_name {i : Nat} {v : V} {Q : L2.St → Hp → Prop} (k : Q (σ.set i (some v)) H) : gName i v σ H Q := k
theorem r_drop (k : te σ H fun _ H1 => D.nx σ H1) : tDrop te D σ H := k
theorem r_ret (k : te σ H D.rt) : tRet te D σ H := k
theorem r_retN (k : D.rt .non H) : tRetN D σ H := k
theorem r_ifS (k : t σ H fun b H1 => if b = true then ts D σ H1 else us D σ H1) : tIfS t ts us D σ H := k
theorem r_gsub {to ti : TE} {tse : TSet} {v : V} {Q : L2.St → Hp → Prop} (k : to σ H fun o H1 => ti σ H1 fun i H2 => tse o i v H2 fun H3 => Q σ H3) : gSub to ti tse v σ H Q := k
theorem r_gtup {n : Nat} {gs : TGs} {a : Addr} {xs : List V} {Q : L2.St → Hp → Prop} (h : SqT K H a xs) (hn : xs.length = n) (k : gs xs σ H Q) : gTup K n gs (.ref a) σ H Q := ⟨a, xs, rfl, h, hn, k⟩
theorem r_gnil {Q : L2.St → Hp → Prop} (k : Q σ H) : gNil [] σ H Q := ⟨rfl, k⟩
theorem r_gcons {g : TG} {gs : TGs} {v : V} {vs : List V} {Q : L2.St → Hp → Prop} (k : g v σ H fun σ' H' => gs vs σ' H' Q) : gCons g gs (v :: vs) σ H Q := ⟨v, vs, rfl, k⟩
theorem r_par {i j : Nat} {tas : TA} (k : tas σ H (PrQ fun v w H1 => D.nx ((σ.set i (some v)).set j (some w)) H1)) : tPar i j tas D σ H := k
theorem r_par2 {Q : V → V → Hp → Prop} {v w : V} (k : Q v w H) : PrQ Q [v, w] H := ⟨v, w, rfl, k⟩
theorem r_aug {i : Nat} {ti : TIp} {v : V} (h : σ[i]? = some (some v)) (k : te σ H fun y H1 => ti v y H1 fun z H2 => D.nx (σ.set i (some z)) H2) : tAug i te ti D σ H := ⟨v, h, k⟩
theorem r_augS {to ti : TE} {tget : V → V → Hp → VK → Prop} {tip : TIp} {tset : TSet}
    (k : to σ H fun o H1 => ti σ H1 fun i H2 => tget o i H2 fun x H3 => te σ H3 fun y H4 => tip x y H4 fun z H5 => tset o i z H5 fun H6 => D.nx σ H6) : tAugS to ti te tget tip tset D σ H := k
end
/-! branches -/
theorem ifd {c : Prop} {inst : Decidable c} {A B : Prop} (h1 : c → A) (h2 : ¬ c → B) : if decide c = true then A else B := by
  by_cases h : c
  · rw [if_pos (decide_eq_true h)]; exact h1 h
  · rw [if_neg (by rw [decide_eq_false h]; exact Bool.false_ne_true)]; exact h2 h
theorem ifT {b : Bool} {A B : Prop} (h : b = true) (k : A) : if b = true then A else B := by rw [if_pos h]; exact k
theorem ifF {b : Bool} {A B : Prop} (h : b = false) (k : B) : if b = true then A else B := by rw [if_neg (by rw [h]; exact Bool.false_ne_true)]; exact k
theorem ifdT {c : Prop} {inst : Decidable c} {A B : Prop} (h : c) (k : A) : if decide c = true then A else B := ifT (decide_eq_true h) k
theorem ifdF {c : Prop} {inst : Decidable c} {A B : Prop} (h : ¬ c) (k : B) : if decide c = true then A else B := ifF (decide_eq_false h) k
theorem ifb {b : Bool} {A B : Prop} (h1 : b = true → A) (h2 : b = false → B) : if b = true then A else B := by
  cases b with
  | true => exact if_pos rfl ▸ h1 rfl
  | false => exact h2 rfl

theorem Al.hu {P w K X} (al : Al P w K X) : X.A.units + 1 < cLine := by have := al.2.2.2.2; omega
theorem Al.hu64 {P w K X} (al : Al P w K X) : X.A.units + 64 < cLine := by have := al.2.2.2.2; omega
theorem Al.calm {P w K X} (al : Al P w K X) : X.calm = true := al.2.2.2.1
/-! ### by values -/
section
variable {P : Program} {w : World} {K : PySem.W.Frag} {H B : Hp} {Q : VK} {F : Ent} {L L1 L2 : Led}
theorem v_add {i j : Int} (k : Q (.int (i + j)) H) : OpU P w K (binaryOp .Add) (.int i) (.int j) H Q := .of (fun _ al => op_add) ⟨i, j, rfl, rfl, k⟩
theorem v_sub {i j : Int} (k : Q (.int (i - j)) H) : OpU P w K (binaryOp .Sub) (.int i) (.int j) H Q := .of (fun _ al => op_sub) ⟨i, j, rfl, rfl, k⟩
theorem v_mul {i j : Int} (h : CMul i j) (k : Q (.int (i * j)) H) : OpU P w K (binaryOp .Mult) (.int i) (.int j) H Q := .of (fun _ al => op_mul) ⟨i, j, rfl, rfl, h, k⟩
theorem v_mod {i j : Int} (h : 0 < j) (k : Q (.int (i % j)) H) : OpU P w K (binaryOp .Mod) (.int i) (.int j) H Q := .of (fun _ al => op_mod) ⟨i, j, rfl, rfl, h, k⟩
theorem v_fdiv {i j : Int} (h : CDiv i j) (k : Q (.int (i / j)) H) : OpU P w K (binaryOp .FloorDiv) (.int i) (.int j) H Q := .of (fun _ al => op_fdiv) ⟨i, j, rfl, rfl, h, k⟩
theorem v_pow {i j : Int} (h : CPow i j) (k : Q (.int (i ^ j.toNat)) H) : OpU P w K (binaryOp .Pow) (.int i) (.int j) H Q := .of (fun _ al => op_pow) ⟨i, j, rfl, rfl, h, k⟩
theorem v_addS {i j : Str} (h : i.length + j.length ≤ sizeLine) (k : Q (.str (i ++ j)) H) : OpU P w K (binaryOp .Add) (.str i) (.str j) H Q := .of (fun _ al => op_add_str) ⟨i, j, rfl, rfl, h, k⟩
theorem v_lt {i j : Int} (k : Q (.bl (decide (i < j))) H) : OpU P w K (compareOp .Lt) (.int i) (.int j) H Q := .of (fun _ al => op_lt) ⟨i, j, rfl, rfl, k⟩
theorem v_le {i j : Int} (k : Q (.bl (decide (i ≤ j))) H) : OpU P w K (compareOp .LtE) (.int i) (.int j) H Q := .of (fun _ al => op_le) ⟨i, j, rfl, rfl, k⟩
theorem v_gt {i j : Int} (k : Q (.bl (decide (j < i))) H) : OpU P w K (compareOp .Gt) (.int i) (.int j) H Q := .of (fun _ al => op_gt) ⟨i, j, rfl, rfl, k⟩
theorem v_ge {i j : Int} (k : Q (.bl (decide (j ≤ i))) H) : OpU P w K (compareOp .GtE) (.int i) (.int j) H Q := .of (fun _ al => op_ge) ⟨i, j, rfl, rfl, k⟩
theorem dec_i {i j : Int} : decide (V.int i = V.int j) = decide (i = j) := by
  by_cases h : i = j
  · subst h; simp
  · rw [decide_eq_false h]; exact decide_eq_false fun z => h (by injection z)
theorem dec_s {i j : Str} : decide (V.str i = V.str j) = decide (i = j) := by
  by_cases h : i = j
  · subst h; simp
  · rw [decide_eq_false h]; exact decide_eq_false fun z => h (by injection z)
theorem dec_b {i j : Bool} : decide (V.bl i = V.bl j) = decide (i = j) := by
  by_cases h : i = j
  · subst h; simp
  · rw [decide_eq_false h]; exact decide_eq_false fun z => h (by injection z)
theorem v_eqI {i j : Int} (k : Q (.bl (decide (i = j))) H) : OpU P w K (compareOp .Eq) (.int i) (.int j) H Q := .of (fun _ al => op_eq) ⟨rfl, by rw [dec_i]; exact k⟩
theorem v_eqS {i j : Str} (k : Q (.bl (decide (i = j))) H) : OpU P w K (compareOp .Eq) (.str i) (.str j) H Q := .of (fun _ al => op_eq) ⟨rfl, by rw [dec_s]; exact k⟩
theorem v_eqB {i j : Bool} (k : Q (.bl (decide (i = j))) H) : OpU P w K (compareOp .Eq) (.bl i) (.bl j) H Q := .of (fun _ al => op_eq) ⟨rfl, by rw [dec_b]; exact k⟩
theorem v_neI {i j : Int} (k : Q (.bl (!decide (i = j))) H) : OpU P w K (compareOp .NotEq) (.int i) (.int j) H Q := .of (fun _ al => op_ne) ⟨rfl, by rw [dec_i]; exact k⟩
theorem v_neS {i j : Str} (k : Q (.bl (!decide (i = j))) H) : OpU P w K (compareOp .NotEq) (.str i) (.str j) H Q := .of (fun _ al => op_ne) ⟨rfl, by rw [dec_s]; exact k⟩
theorem v_neB {i j : Bool} (k : Q (.bl (!decide (i = j))) H) : OpU P w K (compareOp .NotEq) (.bl i) (.bl j) H Q := .of (fun _ al => op_ne) ⟨rfl, by rw [dec_b]; exact k⟩
/-- data against data -/
theorem v_eqD {x y : V} {d e : PyData} (h1 : Dp K H x d) (h2 : Dp K H y e) (s1 : SeqAt.shaped d = true) (s2 : SeqAt.shaped e = true) (k : Q (.bl (PyData.eqv d e)) H) : OpU P w K (compareOp .Eq) x y H Q := .ofK (r := rEqD) (fun _ al => op_eqD al.hu64) ⟨d, e, h1, h2, s1, s2, k⟩
theorem v_neD {x y : V} {d e : PyData} (h1 : Dp K H x d) (h2 : Dp K H y e) (s1 : SeqAt.shaped d = true) (s2 : SeqAt.shaped e = true) (k : Q (.bl (!PyData.eqv d e)) H) : OpU P w K (compareOp .NotEq) x y H Q := .ofK (r := rNeD) (fun _ al => op_neD al.hu64) ⟨d, e, h1, h2, s1, s2, k⟩
theorem v_inSign {c : Nat} {z : Str} (k : Q (.bl (decide (c ∈ z.cps.toList))) H) : OpU P w K (compareOp .In) (.str ⟨#[c]⟩) (.str z) H Q := .of (fun _ al => op_in_sign) ⟨c, z, rfl, rfl, k⟩
end
section
variable {X : Cx} {P : Program} {w : World} {K : PySem.W.Frag} {H B : Hp} {Q : VK}
theorem op_dIn (hu : X.A.units + 1 < cLine) : OpR X (compareOp .In) (fun x y H Q => ∃ a o, y = .ref a ∧ DGet H a x o ∧ Q (.bl o.isSome) H) := by
  intro pins s σ H x y v u Q I rx ry h
  obtain ⟨a, o, rfl, g, q⟩ := h
  obtain rfl : u = Value.ref a := ry
  exact d_in hu I g rx fun s' I' => ⟨.bl o.isSome, H, I', rfl, q⟩
theorem op_dNotIn (hu : X.A.units + 1 < cLine) : OpR X (compareOp .NotIn) (fun x y H Q => ∃ a o, y = .ref a ∧ DGet H a x o ∧ Q (.bl (!o.isSome)) H) := by
  intro pins s σ H x y v u Q I rx ry h
  obtain ⟨a, o, rfl, g, q⟩ := h
  obtain rfl : u = Value.ref a := ry
  exact d_notIn hu I g rx fun s' I' => ⟨.bl (!o.isSome), H, I', rfl, q⟩
theorem ix_dict (hu : X.A.units + 1 < cLine) : IxR X (fun x y H Q => ∃ a v, x = .ref a ∧ DGet H a y (some v) ∧ Q v H) := by
  intro value slice pins s σ H x y v u Q I rx ry h hs
  obtain ⟨a, w, rfl, g, q⟩ := h
  obtain rfl : v = Value.ref a := rx
  have hT := dict_typeIs I g
  unfold subscriptTail
  refine wpAny_bind ?_
  rw [getitemInPython_of_ne hT.not_modules]
  refine wpAny_bind (wpAny_specialOf hT PySem.F.slot_dict_getitem.lookup ?_)
  have fin : wpAny (model X.prog X.w) X.A (subscripted slice false (.ref a) u) (fun r s₃ => wpAny (model X.prog X.w) X.A (letTemporaryGo value (.ref a) r >>= fun _ => pure r) (EP X pins σ Q) X.xe s₃) X.xe s := by
    rw [hs]
    exact wpAny_operating (wpAny_mono (d_getItem hu I g ry fun w' s' I' r' => show EP X pins σ Q w' s' from ⟨w, H, I', r', q⟩) (fun r s₃ h₃ => wpAny_bind (wpAny_letTemporaryGo (wpAny_pure h₃))) fun _ _ x => x)
  first
    | exact wpAny_pure (wpAny_bind fin)
    | exact wpAny_bind (wpAny_pure (wpAny_bind fin))
    | exact wpAny_bind fin
theorem set_dict (hu : X.A.units + 1 < cLine) : PSet X (fun o i v H Q => ∃ a H', o = .ref a ∧ DPut H a i v H' ∧ Q H') := by
  intro pins s σ H o i v ov iv u Q I ro ri rv h
  obtain ⟨a, H', rfl, g, q⟩ := h
  obtain rfl : ov = Value.ref a := ro
  exact d_setItem hu I g ri rv fun s' I' => ⟨H', I', q⟩
theorem mt_get (hu : X.A.units + 1 < cLine) : MtR X "dict.get" (fun x xs H Q => ∃ a y d o, x = .ref a ∧ xs = [y, d] ∧ DGet H a y o ∧ Q (o.getD d) H) := by
  intro pins s σ H x xs v us Q I rx rs h
  obtain ⟨a, y, d, o, rfl, rfl, g, q⟩ := h
  obtain rfl : v = Value.ref a := rx
  obtain ⟨u, w, rfl, r1, r2⟩ := vals2 rs
  exact d_get2 hu I g r1 r2 fun w' s' I' r' => ⟨_, H, I', r', q⟩
theorem mt_get1 (hu : X.A.units + 1 < cLine) : MtR X "dict.get" (fun x xs H Q => ∃ a y o, x = .ref a ∧ xs = [y] ∧ DGet H a y o ∧ Q (o.getD .non) H) := by
  intro pins s σ H x xs v us Q I rx rs h
  obtain ⟨a, y, o, rfl, rfl, g, q⟩ := h
  obtain rfl : v = Value.ref a := rx
  obtain ⟨u, rfl, r1⟩ := vals1 rs
  exact d_get1 hu I g r1 fun w' s' I' r' => ⟨_, H, I', r', q⟩
end

/-! ### calls of one's own -/
section
variable {P : Program} {w : World} {K : PySem.W.Frag} {mg : Str → Option Value} {base : Heap}
def FnG (P : Program) (w : World) (K : PySem.W.Frag) (mg : Str → Option Value) (base : Heap) (k : Nat) (x : Str) (ps : List Str) (sp : Sp) : Prop :=
  ∃ f fd, FnOk P w K mg base CX0 k f fd ps sp ∧ mg x = some (.ref f) ∧ PySem.W.keepIn K (.ref f) = true ∧ Binds K fd ps []
def MtG (P : Program) (w : World) (K : PySem.W.Frag) (mg : Str → Option Value) (base : Heap) (k : Nat) (C : Addr) (m : Str) (ps : List Str) (sp : Sp) : Prop :=
  ∃ f fd, FnOk P w K mg base CX0 k f fd ps sp ∧ Meth K C m f ∧ Binds K fd ps [] ∧ Cls K C
def MkG (P : Program) (w : World) (K : PySem.W.Frag) (mg : Str → Option Value) (base : Heap) (k : Nat) (C : Addr) (x : Str) (ps : List Str) (sp : Sp) : Prop :=
  ∃ f fd, FnOk P w K mg base CX0 k f fd ps sp ∧ Mk K C f ∧ mg x = some (.ref C) ∧ Binds K fd ps []
def tFn (sp : Sp) (t : TA) : TE := fun σ H Q => t σ H fun vs H1 => sp vs H1 Q E0
def tMth (C : Addr) (m : Str) (sp : Sp) (ta : TE) (t : TA) : TE := fun σ H Q => ta σ H fun x H1 => ∃ a dx fs, x = .ref a ∧ H1 a = some (.ins C dx fs) ∧ fs.lookup m = none ∧
  t σ H1 fun vs H2 => sp (x :: vs) H2 Q E0
def tMk (C : Addr) (sp : Sp) (t : TA) : TE := fun σ H Q => t σ H fun vs H1 => ∀ x dx, H1 x = none → H1 dx = none → dx ≠ x →
  sp (.ref x :: vs) (upd (upd H1 dx (.own x)) x (.ins C dx [])) (fun v H2 => v = .non ∧ Q (.ref x) H2) E0
theorem tFn_eq {sp : Sp} {t : TA} : tCall sp [] E0 t = tFn sp t := by
  unfold tCall tFn
  simp only [List.append_nil]
theorem tMth_eq {C : Addr} {m : Str} {sp : Sp} {ta : TE} {t : TA} : tMeth C m sp [] E0 ta t = tMth C m sp ta t := by
  unfold tMeth tMth
  simp only [List.append_nil]
theorem tMk_eq {C : Addr} {sp : Sp} {t : TA} : tMake C sp [] E0 t = tMk C sp t := by
  unfold tMake tMk
  simp only [List.append_nil]
variable {X : Cx} {k : Nat} {C : Addr} {x m : Str} {ps : List Str} {sp : Sp} {e o : Expr} {es : List Expr} {p pos apos : Pos} {t : TA} {ta : TE}
theorem pe_fn (G : FnG X.prog X.w X.K X.mg X.base k x ps sp) (hr : Room k X.A) (hg : Gl X x) (ha : PA X (e :: es) t) (hdb : (x == ("__debug__" : Str)) = false := by decide)
    (he : starEach (e :: es) X.env = (false, eval e X.env) :: starEach es X.env := by rfl) (hpl : (backTo pos (starEach es X.env)).any (·.1) = false := by rfl) : PE X (.Call (.Name x p) (e :: es) [] pos) (tFn sp t) := by
  obtain ⟨f, fd, F, hm, hk, hb⟩ := G
  rw [← tFn_eq]
  exact pe_call F hr hg hm hk hb .nil pass0 ha hdb he hpl
theorem pe_fn0 (G : FnG X.prog X.w X.K X.mg X.base k x ps sp) (hr : Room k X.A) (hg : Gl X x) (hdb : (x == ("__debug__" : Str)) = false := by decide) : PE X (.Call (.Name x p) [] [] pos) (tFn sp tNil) := by
  obtain ⟨f, fd, F, hm, hk, hb⟩ := G
  rw [← tFn_eq]
  exact pe_call0 F hr hg hm hk hb .nil pass0 hdb
theorem pe_mth {pl : Sem Bool} (G : MtG X.prog X.w X.K X.mg X.base k C m ps sp) (hr : Room k X.A) (ho : PE X o ta) (ha : PA X (e :: es) t)
    (hst : starEach (e :: es) X.env = (false, eval e X.env) :: starEach es X.env := by rfl) (hpl : (backTo pos (starEach es X.env)).any (·.1) = false := by rfl)
    (ht : eval (.Call (.Attribute o m apos) (e :: es) [] pos) X.env = (do
      let ov ← eval o X.env
      standAt apos.atName
      let (f, first) ← holding [ov] (getMethod ov m pl)
      callWith pos f first (backTo pos (starEach (e :: es) X.env)) (backToKw pos (keywordEach [] X.env))) := by rfl) : PE X (.Call (.Attribute o m apos) (e :: es) [] pos) (tMth C m sp ta t) := by
  obtain ⟨f, fd, F, hm, hb, c⟩ := G
  rw [← tMth_eq]
  exact pe_meth ho c hm F hr hb .nil pass0 ha hst hpl ht
theorem pe_mth0 {pl : Sem Bool} (G : MtG X.prog X.w X.K X.mg X.base k C m ps sp) (hr : Room k X.A) (ho : PE X o ta)
    (ht : eval (.Call (.Attribute o m apos) [] [] pos) X.env = (do
      let ov ← eval o X.env
      standAt apos.atName
      let (f, first) ← holding [ov] (getMethod ov m pl)
      callWith pos f first (backTo pos (starEach [] X.env)) (backToKw pos (keywordEach [] X.env))) := by rfl) : PE X (.Call (.Attribute o m apos) [] [] pos) (tMth C m sp ta tNil) := by
  obtain ⟨f, fd, F, hm, hb, c⟩ := G
  rw [← tMth_eq]
  exact pe_meth0 ho c hm F hr hb .nil pass0 ht
theorem pe_mk (G : MkG X.prog X.w X.K X.mg X.base k C x ps sp) (hr : Room (k + 1) X.A) (hg : Gl X x) (ha : PA X (e :: es) t) (hdb : (x == ("__debug__" : Str)) = false := by decide)
    (he : starEach (e :: es) X.env = (false, eval e X.env) :: starEach es X.env := by rfl) (hpl : (backTo pos (starEach es X.env)).any (·.1) = false := by rfl) : PE X (.Call (.Name x p) (e :: es) [] pos) (tMk C sp t) := by
  obtain ⟨f, fd, F, M, hm, hb⟩ := G
  rw [← tMk_eq]
  exact pe_make M F hr hg hm hb .nil pass0 ha hdb he hpl
theorem pe_mk0 (G : MkG X.prog X.w X.K X.mg X.base k C x ps sp) (hr : Room (k + 1) X.A) (hg : Gl X x) (hdb : (x == ("__debug__" : Str)) = false := by decide) : PE X (.Call (.Name x p) [] [] pos) (tMk C sp tNil) := by
  obtain ⟨f, fd, F, M, hm, hb⟩ := G
  rw [← tMk_eq]
  exact pe_make0 M F hr hg hm hb .nil pass0 hdb
theorem r_fn {σ : L2.St} {H : Hp} {Q : VK} (k : t σ H fun vs H1 => sp vs H1 Q E0) : tFn sp t σ H Q := k
end
end WK
namespace WK
open PySem PySem.Spec PyProof.Rows L2
/-! ### globals -/
def GlI (mg : Str → Option Value) (x : Str) (i : Int) : Prop := ∃ t, mg x = some (.int i t)
def GlS (mg : Str → Option Value) (x : Str) (z : Str) : Prop := ∃ t, mg x = some (.str z t)
def GlV (mg : Str → Option Value) (x : Str) (v : V) : Prop := ∃ u, mg x = some u ∧ RelV v u
section
variable {X : Cx} {x : Str} {pos : Pos}
theorem pe_gi {i : Int} (h : GlI X.mg x i) (hg : Gl X x) (hd : (x == ("__debug__" : Str)) = false := by decide) : PE X (.Name x pos) (tC (.int i)) := by
  obtain ⟨t, e⟩ := h
  exact pe_glob hg e ⟨t, rfl⟩ hd
theorem pe_gs {z : Str} (h : GlS X.mg x z) (hg : Gl X x) (hd : (x == ("__debug__" : Str)) = false := by decide) : PE X (.Name x pos) (tC (.str z)) := by
  obtain ⟨t, e⟩ := h
  exact pe_glob hg e ⟨t, rfl⟩ hd
theorem pe_gv {v : V} (h : GlV X.mg x v) (hg : Gl X x) (hd : (x == ("__debug__" : Str)) = false := by decide) : PE X (.Name x pos) (tC v) := by
  obtain ⟨u, e, r⟩ := h
  exact pe_glob hg e r hd
end
theorem b_len : bootBuiltins "len" = some (.builtin "len") := by decide +kernel
theorem b_sum : bootBuiltins "sum" = some (.builtin "sum") := by decide +kernel
theorem b_all : bootBuiltins "all" = some (.builtin "all") := by decide +kernel
theorem b_any : bootBuiltins "any" = some (.builtin "any") := by decide +kernel
theorem b_max : bootBuiltins "max" = some (.builtin "max") := by decide +kernel
theorem b_min : bootBuiltins "min" = some (.builtin "min") := by decide +kernel
theorem b_sorted : bootBuiltins "sorted" = some (.builtin "sorted") := by decide +kernel
theorem b_isinstance : bootBuiltins "isinstance" = some (.builtin "isinstance") := by decide +kernel
theorem b_int : bootBuiltins "int" = some (.type "int") := by decide +kernel
theorem b_str : bootBuiltins "str" = some (.type "str") := by decide +kernel
theorem b_list : bootBuiltins "list" = some (.type "list") := by decide +kernel
theorem b_tuple : bootBuiltins "tuple" = some (.type "tuple") := by decide +kernel
theorem b_set : bootBuiltins "set" = some (.type "set") := by decide +kernel
theorem b_dict : bootBuiltins "dict" = some (.type "dict") := by decide +kernel
theorem b_bool : bootBuiltins "bool" = some (.type "bool") := by decide +kernel

/-! ### more by values -/
section
variable {P : Program} {w : World} {K : PySem.W.Frag} {H B : Hp} {Q : VK} {F : Ent} {L L1 L2 : Led}
theorem v_ixL {p : Addr} {xs : List V} {i : Int} {v : V} (h : SqL K H p xs) (ha : atI xs i = some v) (k : Q v H) : IxU P w K (.ref p) (.int i) H Q := .ofK (r := rIxL) (fun _ _ => ix_list) ⟨p, xs, i, v, rfl, rfl, h, ha, k⟩
theorem v_ixT {p : Addr} {xs : List V} {i : Int} {v : V} (h : SqT K H p xs) (ha : atI xs i = some v) (k : Q v H) : IxU P w K (.ref p) (.int i) H Q := .ofK (r := rIxT) (fun _ _ => ix_tup) ⟨p, xs, i, v, rfl, rfl, h, ha, k⟩
theorem v_ixS {z : Str} {i : Int} {c : Nat} (hz : z.length ≤ sizeLine) (ha : atI z.cps.toList i = some c) (k : Q (.str ⟨#[c]⟩) H) : IxU P w K (.str z) (.int i) H Q := .of (fun _ _ => ix_str) ⟨z, i, c, rfl, rfl, hz, ha, k⟩
theorem v_ixD {p : Addr} {y v : V} (h : DGet H p y (some v)) (k : Q v H) : IxU P w K (.ref p) y H Q := .of (fun _ al => ix_dict al.hu) ⟨p, v, rfl, h, k⟩
theorem v_getD {p : Addr} {y v : V} (h : DGet H p y (some v)) (k : Q v H) : GetU P w K (.ref p) y H Q := by
  intro X pins s σ ov iv al I r1 r2
  obtain rfl : ov = Value.ref p := r1
  exact d_getItem al.hu I h r2 fun w' s' I' r' => ⟨v, H, I', r', k⟩
theorem v_setD {p : Addr} {y v : V} {H' : Hp} {Q : Hp → Prop} (h : DPut H p y v H') (k : Q H') : SetU P w K (.ref p) y v H Q := .of (fun _ al => set_dict al.hu) ⟨p, H', rfl, h, k⟩
theorem v_inD {p : Addr} {y : V} {o : Option V} (h : DGet H p y o) (k : Q (.bl o.isSome) H) : OpU P w K (compareOp .In) y (.ref p) H Q := .of (fun _ al => op_dIn al.hu) ⟨p, o, rfl, h, k⟩
theorem v_notInD {p : Addr} {y : V} {o : Option V} (h : DGet H p y o) (k : Q (.bl (!o.isSome)) H) : OpU P w K (compareOp .NotIn) y (.ref p) H Q := .of (fun _ al => op_dNotIn al.hu) ⟨p, o, rfl, h, k⟩
theorem v_get2 {p : Addr} {y d : V} {o : Option V} (h : DGet H p y o) (k : Q (o.getD d) H) : MetU P w K "dict.get" (.ref p) [y, d] H Q := .of (fun _ al => mt_get al.hu) ⟨p, y, d, o, rfl, rfl, h, k⟩
/-- one's own list, changed -/
theorem v_append {p : Addr} {xs : List V} {y : V} (S : Ok F B ((p, .lst xs) :: L) H) (hz : xs.length < sizeLine) (k : ∀ H', Ok F B ((p, .lst (xs ++ [y])) :: L) H' → Q .non H') : MetU P w K "list.append" (.ref p) [y] H Q :=
  .of (fun _ _ => mt_append) ⟨p, xs, y, rfl, rfl, (S.own _ (List.mem_cons_self ..)).1, hz, k _ S.mut⟩
theorem v_setL {p : Addr} {xs : List V} {i : Int} {j : Nat} {y : V} {Q : Hp → Prop} (S : Ok F B ((p, .lst xs) :: L) H) (hj : ixN xs.length i = some j) (k : ∀ H', Ok F B ((p, .lst (xs.set j y)) :: L) H' → Q H') : SetU P w K (.ref p) (.int i) y H Q :=
  .of (fun _ _ => set_list) ⟨p, xs, i, j, rfl, rfl, (S.own _ (List.mem_cons_self ..)).1, hj, k _ S.mut⟩
theorem v_cat {p q : Addr} {xs zs : List V} (S : Ok F B L H) (h1 : H p = some (.lst xs)) (h2 : H q = some (.lst zs)) (hz : xs.length + zs.length ≤ sizeLine) (k : ∀ r H', Ok F B ((r, .lst (xs ++ zs)) :: L) H' → Q (.ref r) H') : OpU P w K (binaryOp .Add) (.ref p) (.ref q) H Q :=
  .of (fun _ _ => op_cat) ⟨p, q, xs, zs, rfl, rfl, h1, h2, hz, fun r hr => k r _ (S.newL hr)⟩
theorem v_len {x : V} {n : Nat} (h : LenV K x H n) (k : Q (.int n) H) : CallU P w K (.builtin "len") [x] H Q := .ofK (r := fun K xs H Q => ∃ x n, xs = [x] ∧ LenV K x H n ∧ Q (.int n) H) (fun _ _ => call_len) ⟨x, n, rfl, h, k⟩
theorem v_max2 {i j : Int} (k : Q (.int (if j > i then j else i)) H) : CallU P w K (.builtin "max") [.int i, .int j] H Q := .of (fun _ al => call_max2 al.calm) ⟨i, j, rfl, k⟩
theorem v_min2 {i j : Int} (k : Q (.int (if j < i then j else i)) H) : CallU P w K (.builtin "min") [.int i, .int j] H Q := .of (fun _ al => call_min2 al.calm) ⟨i, j, rfl, k⟩
theorem v_listOf {p : Addr} {xs : List V} (S : Ok F B L H) (h : SqL K H p xs ∨ SqT K H p xs) (k : ∀ r H', Ok F B ((r, .lst xs) :: L) H' → Q (.ref r) H') : CallU P w K (.type "list") [.ref p] H Q :=
  .ofK (r := fun K vs H Q => ∃ p ys, vs = [.ref p] ∧ (SqL K H p ys ∨ SqT K H p ys) ∧ ∀ l, H l = none → Q (.ref l) (upd H l (.lst ys))) (fun _ _ => call_list_of) ⟨p, xs, rfl, h, fun l hl => k l _ (S.newL hl)⟩
end
/-! new things -/
section
variable {σ : L2.St} {H B : Hp} {Q : VK} {F : Ent} {L : Led} {t : TA}
def NewT (xs : List V) (H : Hp) (Q : VK) : Prop := xs.length ≤ sizeLine ∧ ∀ p, H p = none → Q (.ref p) (upd H p (.tup xs))
def NewL (xs : List V) (H : Hp) (Q : VK) : Prop := xs.length ≤ sizeLine ∧ ∀ p, H p = none → Q (.ref p) (upd H p (.lst xs))
theorem r_tup (k : t σ H fun xs H1 => NewT xs H1 Q) : tTup t σ H Q := k
theorem r_lst (k : t σ H fun xs H1 => NewL xs H1 Q) : tLst t σ H Q := k
theorem new_tup {xs : List V} (S : Ok F B L H) (hz : xs.length ≤ sizeLine) (k : ∀ p B' H', Ex B B' → B' p = some (.tup xs) → Ok F B' L H' → Q (.ref p) H') : NewT xs H Q :=
  ⟨hz, fun p hp => k p _ _ (S.exB hp) upd_same (S.newB hp)⟩
theorem new_lst {xs : List V} (S : Ok F B L H) (hz : xs.length ≤ sizeLine) (k : ∀ p H', Ok F B ((p, .lst xs) :: L) H' → Q (.ref p) H') : NewL xs H Q :=
  ⟨hz, fun p hp => k p _ (S.newL hp)⟩
theorem new_dK (S : Ok F B L H) (k : ∀ p H', Ok F B ((p, .dK []) :: L) H' → Q (.ref p) H') : tDNewK σ H Q := fun p hp => k p _ (S.newL hp)
theorem new_dT (S : Ok F B L H) (k : ∀ p H', Ok F B ((p, .dT []) :: L) H' → Q (.ref p) H') : tDNewT σ H Q := fun p hp => k p _ (S.newL hp)
end
theorem Ok.sub {F : Ent} {B H : Hp} {L1 L2 : Led} (S : Ok F B (L1 ++ L2) H) : Ok ⟨B, H, L1.map (·.1)⟩ B L1 H :=
  Ok.start S.ex (by have := S.nd; rw [List.map_append, List.nodup_append] at this; exact this.1) fun q hq => S.own q (List.mem_append_left _ hq)
end WK
namespace WK
open PySem PySem.Spec PyProof.Rows L2
theorem with_al {P : Program} {w : World} {K : PySem.W.Frag} {X : Cx} {k : Nat} {sts : List Stmt} {D : Ends} {σ : L2.St} {H : Hp} (hr : Room k X.A) (h : Al P w K X → ∃ t, PSs X sts t ∧ t D σ H) (h1 : X.prog = P := by rfl) (h2 : X.w = w := by rfl) (h3 : X.K = K := by rfl) (h4 : X.calm = true := by rfl) :
    ∃ t, PSs X sts t ∧ t D σ H := h (al_of hr h1 h2 h3 h4)
section
variable {P : Program} {w : World} {K : PySem.W.Frag} {σ : L2.St} {H : Hp} {D : Ends} {g : TG} {tb : TS} {tg : Expr} {te : TE}
/-- for x in a list that the body leaves as it is -/
theorem r_forV (k : te σ H fun v H1 => ItU P w K tg v H1 fun J H1 => ∃ W : Nat → Nat → L2.St → Hp → Prop, (∃ m, W 0 m σ H1) ∧ ∀ i m σ H, W i m σ H →
      (J.stop i H ∧ D.nx σ H) ∨ (J.go i H ∧ ∃ N : L2.St → Hp → Prop, (∀ σ' H', N σ' H' → ∃ m', m' < m ∧ W (i + 1) m' σ' H') ∧ ∀ x H', J.yld i H x H' → g x σ H' fun σ2 H2 => tb { D with nx := N, ct := N, bk := D.nx } σ2 H2)) :
    tFor (iVal P w K tg te) g tb D σ H := k
theorem forL {a : Addr} {xs : List V} (hx : SqL K H a xs) (Pv : Nat → L2.St → Hp → Prop) (hl : ∀ i σ H, i ≤ xs.length → Pv i σ H → SqL K H a xs) (h0 : Pv 0 σ H)
    (hs : ∀ i x σ H, xs[i]? = some x → Pv i σ H → g x σ H fun σ2 H2 => tb { D with nx := Pv (i + 1), ct := Pv (i + 1), bk := D.nx } σ2 H2) (hd : ∀ σ H, Pv xs.length σ H → D.nx σ H) :
    ItU P w K tg (.ref a) H fun J H1 => ∃ W : Nat → Nat → L2.St → Hp → Prop, (∃ m, W 0 m σ H1) ∧ ∀ i m σ H, W i m σ H →
      (J.stop i H ∧ D.nx σ H) ∨ (J.go i H ∧ ∃ N : L2.St → Hp → Prop, (∀ σ' H', N σ' H' → ∃ m', m' < m ∧ W (i + 1) m' σ' H') ∧ ∀ x H', J.yld i H x H' → g x σ H' fun σ2 H2 => tb { D with nx := N, ct := N, bk := D.nx } σ2 H2) :=
  .list hx (for_list Pv h0 hl hs hd)
theorem forT {a : Addr} {xs : List V} (hx : SqT K H a xs) (Pv : Nat → L2.St → Hp → Prop) (hl : ∀ i σ H, i ≤ xs.length → Pv i σ H → SqT K H a xs) (h0 : Pv 0 σ H)
    (hs : ∀ i x σ H, xs[i]? = some x → Pv i σ H → g x σ H fun σ2 H2 => tb { D with nx := Pv (i + 1), ct := Pv (i + 1), bk := D.nx } σ2 H2) (hd : ∀ σ H, Pv xs.length σ H → D.nx σ H) :
    ItU P w K tg (.ref a) H fun J H1 => ∃ W : Nat → Nat → L2.St → Hp → Prop, (∃ m, W 0 m σ H1) ∧ ∀ i m σ H, W i m σ H →
      (J.stop i H ∧ D.nx σ H) ∨ (J.go i H ∧ ∃ N : L2.St → Hp → Prop, (∀ σ' H', N σ' H' → ∃ m', m' < m ∧ W (i + 1) m' σ' H') ∧ ∀ x H', J.yld i H x H' → g x σ H' fun σ2 H2 => tb { D with nx := N, ct := N, bk := D.nx } σ2 H2) :=
  .tup hx (for_tup Pv h0 hl hs hd)
end
end WK
namespace WK
open PySem PySem.Spec PyProof.Rows L2
section
variable {P : Program} {w : World} {K : PySem.W.Frag} {H B : Hp} {Q : VK} {F : Ent} {L L1 L2 : Led} {a : Addr} {xs : List V} {o : HO}
theorem Ok.mem (S : Ok F B L H) (h : (a, o) ∈ L) : H a = some o := (S.own _ h).1
theorem Ok.sqMem (S : Ok F B L H) (h : (a, HO.lst xs) ∈ L) : SqL K H a xs := .inl (.inl (S.own _ h).1)
theorem Ok.sqStay (S : Ok F B L H) (h : B a = some (.lst xs)) : SqL K H a xs := .inl (.inl (S.ex _ _ h))
theorem Ok.tqStay (S : Ok F B L H) (h : B a = some (.tup xs)) : SqT K H a xs := .inl (.inl (S.ex _ _ h))
theorem Ok.stay (S : Ok F B L H) (h : B a = some o) : H a = some o := S.ex _ _ h
theorem Ok.dp {v : V} {d : PyData} (S : Ok F B L H) (h : Dp K B v d) : Dp K H v d := h.up S.ex
theorem v_lenL (h : SqL K H a xs) (k : Q (.int xs.length) H) : CallU P w K (.builtin "len") [.ref a] H Q := v_len (.inl ⟨xs, h, rfl⟩) k
theorem v_lenT (h : SqT K H a xs) (k : Q (.int xs.length) H) : CallU P w K (.builtin "len") [.ref a] H Q := v_len (.inr ⟨xs, h, rfl⟩) k
theorem v_lenS {z : Str} (h : z.length ≤ sizeLine) (k : Q (.int z.length) H) : CallU P w K (.builtin "len") [.str z] H Q := v_len (n := z.length) ⟨h, rfl⟩ k
/-- an item of known data -/
theorem v_ixDT {v : V} {ds : List PyData} {d : PyData} {i : Int} {j : Nat} (S : Ok F B L H) (h : Dp K B v (.tuple ds)) (hi : i = (j : Int)) (hj : ds[j]? = some d) (k : ∀ u, Dp K B u d → Q u H) : IxU P w K v (.int i) H Q := by
  obtain ⟨a, xs, rfl, hq, ha⟩ := Dp.tup_inv h
  obtain ⟨u, hu, hd⟩ := ha.get' hj
  subst hi
  exact v_ixT (S.tqB hq) (atI_nat hu) (k u hd)
theorem v_ixDL {v : V} {ds : List PyData} {d : PyData} {i : Int} {j : Nat} (S : Ok F B L H) (h : Dp K B v (.list ds)) (hi : i = (j : Int)) (hj : ds[j]? = some d) (k : ∀ u, Dp K B u d → Q u H) : IxU P w K v (.int i) H Q := by
  obtain ⟨a, xs, rfl, hq, ha⟩ := Dp.lst_inv h
  obtain ⟨u, hu, hd⟩ := ha.get' hj
  subst hi
  exact v_ixL (S.sqB hq) (atI_nat hu) (k u hd)
theorem at_mod {n : Int} {m : Nat} (hm : 0 < m) {α : Type} {xs : List α} (hx : xs.length = m) (d : α) : ∃ j, j < m ∧ n % (m : Int) = (j : Int) ∧ atI xs (n % (m : Int)) = some (xs.getD j d) := by
  have h0 : 0 ≤ n % (m : Int) := Int.emod_nonneg _ (by omega)
  have h1 : n % (m : Int) < m := Int.emod_lt_of_pos _ (by omega)
  refine ⟨(n % (m : Int)).toNat, by omega, by omega, ?_⟩
  have e : n % (m : Int) = (((n % (m : Int)).toNat : Nat) : Int) := by omega
  rw [e]
  refine atI_nat ?_
  rw [Int.toNat_natCast, List.getD_eq_getElem?_getD]
  have hl : (n % (m : Int)).toNat < xs.length := by omega
  rw [List.getElem?_eq_getElem hl]
  rfl
theorem ixN_of {n j : Nat} {i : Int} (e : i = (j : Int)) (h : j < n) : ixN n i = some j := by
  subst e
  unfold ixN
  rw [if_pos (by omega), if_pos (by omega)]
  simp
theorem Ok.swap {p q : Addr × HO} (S : Ok F B (p :: q :: L) H) : Ok F B (q :: p :: L) H := S.perm (.swap ..)
end
end WK
namespace WK
open PySem PySem.Spec PyProof.Rows L2
section
variable {P : Program} {w : World} {K : PySem.W.Frag} {H B : Hp} {Q : VK} {F : Ent} {L L1 L2 : Led} {a p : Addr} {xs : List V} {o o' : HO}
theorem Ok.mutN (S : Ok F B L H) (n : Nat) (h : L[n]? = some (p, o)) : Ok F B (L.set n (p, o')) (upd H p o') := by
  obtain ⟨hn, e⟩ := List.getElem?_eq_some_iff.mp h
  have e1 : L = L.take n ++ (p, o) :: L.drop (n + 1) := by rw [← e, List.getElem_cons_drop, List.take_append_drop]
  have e2 : L.set n (p, o') = L.take n ++ (p, o') :: L.drop (n + 1) := by rw [List.set_eq_take_append_cons_drop, if_pos hn]
  rw [e2]
  rw [e1] at S
  exact S.mutAt
theorem v_appendN {y : V} (n : Nat) (S : Ok F B L H) (h : L[n]? = some (p, .lst xs)) (hz : xs.length < sizeLine) (k : ∀ H', Ok F B (L.set n (p, .lst (xs ++ [y]))) H' → Q .non H') : MetU P w K "list.append" (.ref p) [y] H Q :=
  .of (fun _ _ => mt_append) ⟨p, xs, y, rfl, rfl, (S.own _ (List.mem_of_getElem? h)).1, hz, k _ (S.mutN n h)⟩
theorem v_setLN {i : Int} {j : Nat} {y : V} {Q : Hp → Prop} (n : Nat) (S : Ok F B L H) (h : L[n]? = some (p, .lst xs)) (hj : ixN xs.length i = some j) (k : ∀ H', Ok F B (L.set n (p, .lst (xs.set j y))) H' → Q H') : SetU P w K (.ref p) (.int i) y H Q :=
  .of (fun _ _ => set_list) ⟨p, xs, i, j, rfl, rfl, (S.own _ (List.mem_of_getElem? h)).1, hj, k _ (S.mutN n h)⟩
theorem v_setKN {kvs : List (Key × V)} {y v : V} {k : Key} {Q : Hp → Prop} (n : Nat) (S : Ok F B L H) (h : L[n]? = some (p, .dK kvs)) (hy : y = kV k) (hz : kvs.length < sizeLine) (q : ∀ H', Ok F B (L.set n (p, .dK (putK kvs k v))) H' → Q H') : SetU P w K (.ref p) y v H Q := by
  subst hy
  exact v_setD (DPut.k (S.own _ (List.mem_of_getElem? h)).1 hz) (q _ (S.mutN n h))
end
end WK
namespace WK
open PySem PySem.Spec PyProof.Rows L2
section
variable {F : Ent} {B B0 H H0 : Hp} {L : Led} {a : Addr} {o : HO}
/-- what stood at an entry whose own things may not change -/
theorem Ok.kept (S : Ok ⟨B0, H0, []⟩ B L H) (h : H0 a = some o) : H a = some o := S.keep a o h (by simp)
theorem Ok.keptRd (S : Ok ⟨B0, H0, []⟩ B L H) (h : Rd H0 a o) : Rd H a o := by
  rcases h with h | ⟨u, h⟩
  · exact .inl (S.kept h)
  · exact .inr ⟨u, S.kept h⟩
theorem dgetK {kvs : List (Key × V)} {k : Key} (e : Rd H a (.dK kvs)) : DGet H a (kV k) (valV kvs k) := .inl ⟨kvs, k, e, rfl, rfl⟩
theorem dgetS {kvs : List (Key × V)} {k : Str} (e : Rd H a (.dK kvs)) : DGet H a (.str k) (valV kvs (.inr k)) := .inl ⟨kvs, .inr k, e, rfl, rfl⟩
theorem dgetI {kvs : List (Key × V)} {k : Int} (e : Rd H a (.dK kvs)) : DGet H a (.int k) (valV kvs (.inl k)) := .inl ⟨kvs, .inl k, e, rfl, rfl⟩
end
end WK
namespace WK
open PySem PySem.Spec PyProof.Rows L2
section
variable {P : Program} {w : World} {K : PySem.W.Frag} {F : Ent} {B H : Hp} {L : Led} {a : Addr} {o : HO} {od : Obj} {Q : VK} {kvs : List (Key × V)}
theorem Ok.rdMem (S : Ok F B L H) (h : (a, o) ∈ L) : Rd H a o := .inl (S.own _ h).1
theorem Ok.rdMemF (S : Ok F B L H) (h : (a, HO.frz od o) ∈ L) : Rd H a o := .inr ⟨od, (S.own _ h).1⟩
theorem Ok.rdStay (S : Ok F B L H) (h : B a = some o) : Rd H a o := .inl (S.ex _ _ h)
theorem Ok.rdStayF (S : Ok F B L H) (h : B a = some (.frz od o)) : Rd H a o := .inr ⟨od, S.ex _ _ h⟩
theorem v_inDS {z : Str} (h : Rd H a (.dK kvs)) (k : Q (.bl (valV kvs (.inr z)).isSome) H) : OpU P w K (compareOp .In) (.str z) (.ref a) H Q := v_inD (dgetS h) k
theorem v_inDI {z : Int} (h : Rd H a (.dK kvs)) (k : Q (.bl (valV kvs (.inl z)).isSome) H) : OpU P w K (compareOp .In) (.int z) (.ref a) H Q := v_inD (dgetI h) k
theorem v_notInDS {z : Str} (h : Rd H a (.dK kvs)) (k : Q (.bl (!(valV kvs (.inr z)).isSome)) H) : OpU P w K (compareOp .NotIn) (.str z) (.ref a) H Q := v_notInD (dgetS h) k
theorem v_ixDS {z : Str} {v : V} (h : Rd H a (.dK kvs)) (e : valV kvs (.inr z) = some v) (k : Q v H) : IxU P w K (.ref a) (.str z) H Q := v_ixD (by rw [← e]; exact dgetS h) k
theorem v_ixDI {z : Int} {v : V} (h : Rd H a (.dK kvs)) (e : valV kvs (.inl z) = some v) (k : Q v H) : IxU P w K (.ref a) (.int z) H Q := v_ixD (by rw [← e]; exact dgetI h) k
theorem v_getDS {z : Str} {v : V} (h : Rd H a (.dK kvs)) (e : valV kvs (.inr z) = some v) (k : Q v H) : GetU P w K (.ref a) (.str z) H Q := v_getD (by rw [← e]; exact dgetS h) k
theorem v_get2S {z : Str} {d : V} (h : Rd H a (.dK kvs)) (k : Q ((valV kvs (.inr z)).getD d) H) : MetU P w K "dict.get" (.ref a) [.str z, d] H Q := v_get2 (dgetS h) k
theorem v_get2I {z : Int} {d : V} (h : Rd H a (.dK kvs)) (k : Q ((valV kvs (.inl z)).getD d) H) : MetU P w K "dict.get" (.ref a) [.int z, d] H Q := v_get2 (dgetI h) k
theorem v_ipAdd {i j : Int} (k : Q (.int (i + j)) H) : IpU P w K .Add (.int i) (.int j) H Q := .of (fun _ _ => ip_add) ⟨i, j, rfl, rfl, k⟩
theorem v_ipSub {i j : Int} (k : Q (.int (i - j)) H) : IpU P w K .Sub (.int i) (.int j) H Q := .of (fun _ _ => ip_sub) ⟨i, j, rfl, rfl, k⟩
theorem valV_some_iff {κ : Type} [DecidableEq κ] {kvs : List (κ × V)} {k : κ} : (valV kvs k).isSome = true ↔ k ∈ kvs.map (·.1) := by
  unfold valV
  rw [Option.isSome_map, List.find?_isSome]
  simp only [decide_eq_true_eq, List.mem_map]
theorem valV_isSome_false {κ : Type} [DecidableEq κ] {kvs : List (κ × V)} {k : κ} (h : k ∉ kvs.map (·.1)) : (valV kvs k).isSome = false := by
  cases e : (valV kvs k).isSome with
  | false => rfl
  | true => exact absurd (valV_some_iff.mp e) h
theorem valV_isSome_true {κ : Type} [DecidableEq κ] {kvs : List (κ × V)} {k : κ} (h : k ∈ kvs.map (·.1)) : (valV kvs k).isSome = true := valV_some_iff.mpr h
end
end WK
namespace WK
theorem ifTT {A B : Prop} (k : A) : if true = true then A else B := by rw [if_pos rfl]; exact k
theorem ifFF {A B : Prop} (k : B) : if false = true then A else B := by rw [if_neg Bool.false_ne_true]; exact k
theorem ifNT {A B : Prop} (k : B) : if (!true) = true then A else B := by rw [if_neg (by decide)]; exact k
theorem ifNF {A B : Prop} (k : A) : if (!false) = true then A else B := by rw [if_pos (by decide)]; exact k
theorem ifnd {c : Prop} {inst : Decidable c} {A B : Prop} (h1 : c → B) (h2 : ¬ c → A) : if (!decide c) = true then A else B := by
  by_cases h : c
  · rw [decide_eq_true h]; exact ifNT (h1 h)
  · rw [decide_eq_false h]; exact ifNF (h2 h)
theorem ifndT {c : Prop} {inst : Decidable c} {A B : Prop} (h : c) (k : B) : if (!decide c) = true then A else B := by rw [decide_eq_true h]; exact ifNT k
theorem ifndF {c : Prop} {inst : Decidable c} {A B : Prop} (h : ¬ c) (k : A) : if (!decide c) = true then A else B := by rw [decide_eq_false h]; exact ifNF k
end WK
namespace WK
open PySem PySem.Spec PyProof.Rows L2
/-- the slots with one set, written out -/
inductive SlotSet : L2.St → Nat → Option V → L2.St → Prop where
  | zero {x v : Option V} {l : L2.St} : SlotSet (x :: l) 0 v (v :: l)
  | succ {x v : Option V} {l l' : L2.St} {i : Nat} : SlotSet l i v l' → SlotSet (x :: l) (i + 1) v (x :: l')
theorem SlotSet.eq {l l' : L2.St} {i : Nat} {v : Option V} (h : SlotSet l i v l') : l.set i v = l' := by
  induction h with
  | zero => rfl
  | succ _ ih => rw [List.set_cons_succ, ih]
theorem r_nameS {i : Nat} {v : V} {σ σ' : L2.St} {H : Hp} {Q : L2.St → Hp → Prop} (h : SlotSet σ i (some v) σ') (k : Q σ' H) : gName i v σ H Q := by
  unfold gName
  rw [h.eq]
  exact k
end WK

namespace WK
open PySem PySem.Spec PyProof.Rows L2
/-! ### what is walked, told by data -/
def ForW (g : TG) (tb : TS) (D : Ends) (σ : L2.St) : It → Hp → Prop := fun J H1 => ∃ W : Nat → Nat → L2.St → Hp → Prop, (∃ m, W 0 m σ H1) ∧ ∀ i m σ H, W i m σ H →
  (J.stop i H ∧ D.nx σ H) ∨ (J.go i H ∧ ∃ N : L2.St → Hp → Prop, (∀ σ' H', N σ' H' → ∃ m', m' < m ∧ W (i + 1) m' σ' H') ∧ ∀ x H', J.yld i H x H' → g x σ H' fun σ2 H2 => tb { D with nx := N, ct := N, bk := D.nx } σ2 H2)
def LcW (g : TG) (tt : TT) (te : TE) (vs : List Nat) (σ : L2.St) (Q : VK) : It → Hp → Prop := fun J H1 => ∀ D, H1 D = none → ∃ W : Nat → Nat → Hp → Prop, (∃ m, W 0 m (upd H1 D (.lst []))) ∧ ∀ i m H, W i m H →
  (J.stop i H ∧ Q (.ref D) H) ∨ (J.go i H ∧ ∃ Nx : Hp → Prop, (∀ H', Nx H' → ∃ m', m' < m ∧ W (i + 1) m' H') ∧ ∀ x H', J.yld i H x H' → g x (wipe σ vs) H' fun σ2 H2 => wipe σ2 vs = wipe σ vs ∧ tt σ2 H2 fun b H3 =>
    if b = true then te σ2 H3 fun y H4 => ∃ acc, H4 D = some (.lst acc) ∧ acc.length < sizeLine ∧ Nx (upd H4 D (.lst (acc ++ [y]))) else Nx H3)
def DcW (g : TG) (tt : TT) (tk tv : TE) (vs : List Nat) (σ : L2.St) (Q : VK) : It → Hp → Prop := fun J H1 => ∀ D, H1 D = none → ∃ W : Nat → Nat → Hp → Prop, (∃ m, W 0 m (upd H1 D (.dK []))) ∧ ∀ i m H, W i m H →
  (J.stop i H ∧ Q (.ref D) H) ∨ (J.go i H ∧ ∃ Nx : Hp → Prop, (∀ H', Nx H' → ∃ m', m' < m ∧ W (i + 1) m' H') ∧ ∀ x H', J.yld i H x H' → g x (wipe σ vs) H' fun σ2 H2 => wipe σ2 vs = wipe σ vs ∧ tt σ2 H2 fun b H3 =>
    if b = true then tk σ2 H3 fun y H4 => tv σ2 H4 fun z H5 => ∃ kvs k, y = kV k ∧ H5 D = some (.dK kvs) ∧ kvs.length < sizeLine ∧ Nx (upd H5 D (.dK (putK kvs k z))) else Nx H3)
structure Src {α : Type} (J : It) (GB : Hp → Led → Prop) (as : List α) (R : Hp → V → α → Prop) : Prop where
  ex : ∃ (G : Hp → Prop) (Y : Nat → Hp → V → Hp → Prop), Walk J as.length G Y ∧ (∀ F B L H, Ok F B L H → GB B L → G H) ∧
    ∀ F B L i H x H', Ok F B L H → GB B L → Y i H x H' → i < as.length → ∃ a B', as[i]? = some a ∧ Ex B B' ∧ Ok F B' L H' ∧ R B' x a
section
variable {α : Type} {J : It} {GB : Hp → Led → Prop} {as : List α} {R : Hp → V → α → Prop} {F : Ent} {B H H1 : Hp} {L : Led} {σ : L2.St}
/-- what a turn of a loop is to reach -/
def Nxt (F : Ent) (I : L2.St → Hp → Led → Prop) : L2.St → Hp → Prop := fun σ H => ∃ B L, Ok F B L H ∧ I σ B L
theorem Nxt.mk {I : L2.St → Hp → Led → Prop} (S : Ok F B L H) (h : I σ B L) : Nxt F I σ H := ⟨B, L, S, h⟩
theorem forD (src : Src J GB as R) {g : TG} {tb : TS} {D : Ends} (S : Ok F B L H) (I : Nat → L2.St → Hp → Led → Prop) (h0 : I 0 σ B L) (hG : ∀ i σ B L, i ≤ as.length → I i σ B L → GB B L)
    (hs : ∀ i a x σ B0 B L H, as[i]? = some a → I i σ B0 L → Ex B0 B → Ok F B L H → R B x a → g x σ H fun σ2 H2 => tb { D with nx := Nxt F (I (i + 1)), ct := Nxt F (I (i + 1)), bk := D.nx } σ2 H2)
    (hd : ∀ σ B L H, I as.length σ B L → Ok F B L H → D.nx σ H) :
    ForW g tb D σ J H := by
  obtain ⟨G, Y, w, h1, h2⟩ := src.ex
  refine for_it w (fun i => Nxt F (I i)) (.mk S h0) (fun i σ H hi ⟨B, L, S, q⟩ => h1 F B L H S (hG i σ B L hi q)) (fun i x σ H H' hi ⟨B, L, S, q⟩ y => ?_) (fun σ H ⟨B, L, S, q⟩ => hd σ B L H q S)
  obtain ⟨a, B', e, ex, S', r⟩ := h2 F B L i H x H' S (hG i σ B L (Nat.le_of_lt hi) q) y hi
  exact hs i a x σ B B' L H' e q ex S' r
/-- what an element of a comprehension is to reach: the new list at D holds acc, then one more -/
def Acc (F : Ent) (I : List V → Hp → Led → Prop) (D : Addr) : VK := fun y H => ∃ acc, H D = some (.lst acc) ∧ acc.length < sizeLine ∧ ∃ acc' B L, Ok F B ((D, .lst acc') :: L) (upd H D (.lst (acc ++ [y]))) ∧ I acc' B L
def Skp (F : Ent) (I : List V → Hp → Led → Prop) (D : Addr) : Hp → Prop := fun H => ∃ acc' B L, Ok F B ((D, .lst acc') :: L) H ∧ I acc' B L
theorem Acc.mk {I : List V → Hp → Led → Prop} {D : Addr} {acc : List V} {y : V} (S : Ok F B ((D, .lst acc) :: L) H) (hz : acc.length < sizeLine) (h : I (acc ++ [y]) B L) : Acc F I D y H :=
  ⟨acc, (S.own _ (List.mem_cons_self ..)).1, hz, _, B, L, S.mut, h⟩
theorem Skp.mk {I : List V → Hp → Led → Prop} {D : Addr} {acc : List V} (S : Ok F B ((D, .lst acc) :: L) H) (h : I acc B L) : Skp F I D H := ⟨acc, B, L, S, h⟩
theorem lcD (src : Src J GB as R) {g : TG} {tt : TT} {te : TE} {vs : List Nat} {Q : VK} (S : Ok F B L H1) (I : Nat → List V → Hp → Led → Prop) (h0 : I 0 [] B L) (hG : ∀ i acc B L D, i ≤ as.length → I i acc B L → GB B ((D, .lst acc) :: L))
    (hs : ∀ i a x acc B0 B L D H, as[i]? = some a → I i acc B0 L → Ex B0 B → Ok F B ((D, .lst acc) :: L) H → R B x a → g x (wipe σ vs) H fun σ2 H2 => wipe σ2 vs = wipe σ vs ∧ tt σ2 H2 fun b H3 =>
      if b = true then te σ2 H3 (Acc F (I (i + 1)) D) else Skp F (I (i + 1)) D H3)
    (hd : ∀ acc B L D H, I as.length acc B L → Ok F B ((D, .lst acc) :: L) H → Q (.ref D) H) :
    LcW g tt te vs σ Q J H1 := by
  intro D hD
  obtain ⟨G, Y, w, h1, h2⟩ := src.ex
  refine lc_it w (fun i H => ∃ acc B L, Ok F B ((D, .lst acc) :: L) H ∧ I i acc B L) ⟨[], B, L, S.newL hD, h0⟩ (fun i H hi ⟨acc, B, L, S, q⟩ => h1 F B _ H S (hG i acc B L D hi q)) (fun i x H H' hi ⟨acc, B, L, S, q⟩ y => ?_) (fun H ⟨acc, B, L, S, q⟩ => hd acc B L D H q S)
  obtain ⟨a, B', e, ex, S', r⟩ := h2 F B _ i H x H' S (hG i acc B L D (Nat.le_of_lt hi) q) y hi
  exact hs i a x acc B B' L D H' e q ex S' r
/-- .. of a dict -/
def AccD (F : Ent) (I : List (Key × V) → Hp → Led → Prop) (D : Addr) (y : V) : VK := fun z H => ∃ kvs k, y = kV k ∧ H D = some (.dK kvs) ∧ kvs.length < sizeLine ∧ ∃ kvs' B L, Ok F B ((D, .dK kvs') :: L) (upd H D (.dK (putK kvs k z))) ∧ I kvs' B L
def SkpD (F : Ent) (I : List (Key × V) → Hp → Led → Prop) (D : Addr) : Hp → Prop := fun H => ∃ kvs' B L, Ok F B ((D, .dK kvs') :: L) H ∧ I kvs' B L
theorem AccD.mk {I : List (Key × V) → Hp → Led → Prop} {D : Addr} {kvs : List (Key × V)} {y z : V} {k : Key} (S : Ok F B ((D, .dK kvs) :: L) H) (e : y = kV k) (hz : kvs.length < sizeLine) (h : I (putK kvs k z) B L) : AccD F I D y z H :=
  ⟨kvs, k, e, (S.own _ (List.mem_cons_self ..)).1, hz, _, B, L, S.mut, h⟩
theorem SkpD.mk {I : List (Key × V) → Hp → Led → Prop} {D : Addr} {kvs : List (Key × V)} (S : Ok F B ((D, .dK kvs) :: L) H) (h : I kvs B L) : SkpD F I D H := ⟨kvs, B, L, S, h⟩
theorem dc_it {n : Nat} {G : Hp → Prop} {Y : Nat → Hp → V → Hp → Prop} (w : Walk J n G Y) {g : TG} {tt : TT} {tk tv : TE} {vs : List Nat} {D : Addr} {Qd : Hp → Prop} (Pv : Nat → Hp → Prop) (h0 : Pv 0 (upd H1 D (.dK []))) (hG : ∀ i H, i ≤ n → Pv i H → G H)
    (hs : ∀ i x H H', i < n → Pv i H → Y i H x H' → g x (wipe σ vs) H' fun σ2 H2 => wipe σ2 vs = wipe σ vs ∧ tt σ2 H2 fun b H3 =>
      if b = true then tk σ2 H3 fun y H4 => tv σ2 H4 fun z H5 => ∃ kvs k, y = kV k ∧ H5 D = some (.dK kvs) ∧ kvs.length < sizeLine ∧ Pv (i + 1) (upd H5 D (.dK (putK kvs k z))) else Pv (i + 1) H3) (hd : ∀ H, Pv n H → Qd H) :
    ∃ W : Nat → Nat → Hp → Prop, (∃ m, W 0 m (upd H1 D (.dK []))) ∧ ∀ i m H, W i m H →
      (J.stop i H ∧ Qd H) ∨ (J.go i H ∧ ∃ Nx : Hp → Prop, (∀ H', Nx H' → ∃ m', m' < m ∧ W (i + 1) m' H') ∧ ∀ x H', J.yld i H x H' → g x (wipe σ vs) H' fun σ2 H2 => wipe σ2 vs = wipe σ vs ∧ tt σ2 H2 fun b H3 =>
        if b = true then tk σ2 H3 fun y H4 => tv σ2 H4 fun z H5 => ∃ kvs k, y = kV k ∧ H5 D = some (.dK kvs) ∧ kvs.length < sizeLine ∧ Nx (upd H5 D (.dK (putK kvs k z))) else Nx H3) := by
  refine ⟨fun i m H => m = n - i ∧ i ≤ n ∧ Pv i H, ⟨n, by simp, Nat.zero_le _, h0⟩, ?_⟩
  rintro i m H ⟨rfl, hi, p⟩
  have q := hG i H hi p
  by_cases hlt : i < n
  · refine .inr ⟨w.goes i H hlt q, Pv (i + 1), fun H' p' => ⟨n - (i + 1), by omega, rfl, hlt, p'⟩, fun x H' y => hs i x H H' hlt p (w.yields i H x H' hlt q y)⟩
  · have e : i = n := by omega
    subst e
    exact .inl ⟨w.stops H q, hd H p⟩
theorem dcD (src : Src J GB as R) {g : TG} {tt : TT} {tk tv : TE} {vs : List Nat} {Q : VK} (S : Ok F B L H1) (I : Nat → List (Key × V) → Hp → Led → Prop) (h0 : I 0 [] B L) (hG : ∀ i acc B L D, i ≤ as.length → I i acc B L → GB B ((D, .dK acc) :: L))
    (hs : ∀ i a x acc B0 B L D H, as[i]? = some a → I i acc B0 L → Ex B0 B → Ok F B ((D, .dK acc) :: L) H → R B x a → g x (wipe σ vs) H fun σ2 H2 => wipe σ2 vs = wipe σ vs ∧ tt σ2 H2 fun b H3 =>
      if b = true then tk σ2 H3 fun y H4 => tv σ2 H4 (AccD F (I (i + 1)) D y) else SkpD F (I (i + 1)) D H3)
    (hd : ∀ acc B L D H, I as.length acc B L → Ok F B ((D, .dK acc) :: L) H → Q (.ref D) H) :
    DcW g tt tk tv vs σ Q J H1 := by
  intro D hD
  obtain ⟨G, Y, w, h1, h2⟩ := src.ex
  refine dc_it w (fun i H => ∃ acc B L, Ok F B ((D, .dK acc) :: L) H ∧ I i acc B L) ⟨[], B, L, S.newL hD, h0⟩ (fun i H hi ⟨acc, B, L, S, q⟩ => h1 F B _ H S (hG i acc B L D hi q)) (fun i x H H' hi ⟨acc, B, L, S, q⟩ y => ?_) (fun H ⟨acc, B, L, S, q⟩ => hd acc B L D H q S)
  obtain ⟨a, B', e, ex, S', r⟩ := h2 F B _ i H x H' S (hG i acc B L D (Nat.le_of_lt hi) q) y hi
  exact hs i a x acc B B' L D H' e q ex S' r
end

/-! sources -/
section
variable {α : Type} {K : PySem.W.Frag} {a d : Addr} {xs : List V} {o : Obj}
theorem src_lst {as : List α} {enc : α → PyData} : Src (Itl K a) (fun B L => (SqL K B a xs ∨ (a, HO.lst xs) ∈ L) ∧ DpAll K B xs (as.map enc)) as (fun B x y => Dp K B x (enc y)) := by
  by_cases hl : xs.length = as.length
  · refine ⟨_, _, hl ▸ walk_list (xs := xs), fun F B L H S g => ?_, fun F B L i H x H' S g y hi => ?_⟩
    · rcases g.1 with h | h
      · exact S.sqB h
      · exact S.sqMem h
    · obtain ⟨rfl, y⟩ := y
      obtain ⟨d, hd, hx⟩ := g.2.get y
      rw [List.getElem?_map] at hd
      cases e : as[i]? with
      | none => rw [e] at hd; cases hd
      | some z =>
        rw [e] at hd
        cases hd
        exact ⟨z, B, rfl, Ex.refl _, S, hx⟩
  · refine ⟨fun _ => False, fun _ _ _ _ => False, ⟨fun _ _ _ h => h.elim, fun _ h => h.elim, fun _ _ _ _ _ h => h.elim⟩, fun F B L H S g => hl ?_, fun F B L i H x H' S g y hi => y.elim⟩
    have := g.2.length
    rw [List.length_map] at this
    exact this
theorem src_tup {as : List α} {enc : α → PyData} : Src (Itt K a) (fun B _ => SqT K B a xs ∧ DpAll K B xs (as.map enc)) as (fun B x y => Dp K B x (enc y)) := by
  by_cases hl : xs.length = as.length
  · refine ⟨_, _, hl ▸ walk_tup (xs := xs), fun F B L H S g => S.tqB g.1, fun F B L i H x H' S g y hi => ?_⟩
    obtain ⟨rfl, y⟩ := y
    obtain ⟨d, hd, hx⟩ := g.2.get y
    rw [List.getElem?_map] at hd
    cases e : as[i]? with
    | none => rw [e] at hd; cases hd
    | some z =>
      rw [e] at hd
      cases hd
      exact ⟨z, B, rfl, Ex.refl _, S, hx⟩
  · refine ⟨fun _ => False, fun _ _ _ _ => False, ⟨fun _ _ _ h => h.elim, fun _ h => h.elim, fun _ _ _ _ _ h => h.elim⟩, fun F B L H S g => hl ?_, fun F B L i H x H' S g y hi => y.elim⟩
    have := g.2.length
    rw [List.length_map] at this
    exact this
theorem src_range {lo : Int} {n : Nat} : Src (Itr lo n) (fun _ _ => True) (List.range n) (fun _ x i => x = .int (lo + (i : Nat))) := by
  refine ⟨fun _ => True, YFn fun i => .int (lo + i), (by rw [List.length_range]; exact walk_range), fun F B L H S g => True.intro, fun F B L i H x H' S g y hi => ?_⟩
  obtain ⟨rfl, rfl⟩ := y
  rw [List.length_range] at hi
  exact ⟨i, B, by simp [hi], Ex.refl _, S, rfl⟩
theorem src_str {z : Str} : Src (Its z) (fun _ _ => True) z.cps.toList (fun _ x c => x = .str ⟨#[c]⟩) := by
  refine ⟨_, _, (by rw [Array.length_toList]; exact walk_str), fun F B L H S g => True.intro, fun F B L i H x H' S g y hi => ?_⟩
  obtain ⟨rfl, c, hc, rfl⟩ := y
  exact ⟨c, B, by simpa using hc, Ex.refl _, S, rfl⟩
/-- a dict that is locked -/
def Frz (d : Addr) (o : Obj) (kvs : List (Key × V)) (B : Hp) (L : Led) : Prop := B d = some (.frz o (.dK kvs)) ∨ (d, HO.frz o (.dK kvs)) ∈ L
theorem Frz.at {F : Ent} {B H : Hp} {L : Led} {kvs : List (Key × V)} (S : Ok F B L H) (h : Frz d o kvs B L) : H d = some (.frz o (.dK kvs)) := by
  rcases h with h | h
  · exact S.stay h
  · exact S.mem h
theorem src_keys {kvs : List (Key × V)} : Src (Itk d o kvs) (Frz d o kvs) (kvs.map (·.1)) (fun _ x k => x = kV k) := by
  refine ⟨_, _, (by rw [List.length_map]; exact walk_keys), fun F B L H S g => g.at S, fun F B L i H x H' S g y hi => ?_⟩
  obtain ⟨rfl, k, v, e, rfl⟩ := y
  exact ⟨k, B, by rw [List.getElem?_map, e]; rfl, Ex.refl _, S, rfl⟩
theorem src_values {kvs : List (Key × V)} : Src (Itd d o kvs) (Frz d o kvs) (kvs.map (·.2)) (fun _ x v => x = v) := by
  refine ⟨_, _, (by rw [List.length_map]; exact walk_values), fun F B L H S g => g.at S, fun F B L i H x H' S g y hi => ?_⟩
  obtain ⟨rfl, k, e⟩ := y
  exact ⟨x, B, by rw [List.getElem?_map, e]; rfl, Ex.refl _, S, rfl⟩
theorem src_items {kvs : List (Key × V)} : Src (Iti d o kvs) (Frz d o kvs) kvs (fun B x kv => ∃ T, x = .ref T ∧ B T = some (.tup [kV kv.1, kv.2])) := by
  refine ⟨_, _, walk_items, fun F B L H S g => g.at S, fun F B L i H x H' S g y hi => ?_⟩
  obtain ⟨T, x', y', rfl, n, rfl, e1, e2⟩ := y
  dsimp only at e1 e2
  cases e : kvs[i]? with
  | none => rw [e] at e1; cases e1
  | some kv =>
    rw [e] at e1 e2
    cases e1
    cases e2
    exact ⟨kv, upd B T (.tup [kV kv.1, kv.2]), rfl, S.exB n, S.newB n, T, rfl, upd_same⟩
theorem getElem_zipIdx {as : List α} {i : Nat} {z : α} (e : as[i]? = some z) : as.zipIdx[i]? = some (z, i) := by
  simp [List.getElem?_zipIdx, e]
/-- enumerate(a list) -/
theorem src_enum {as : List α} {enc : α → PyData} : Src (Ite K a) (fun B L => (SqL K B a xs ∨ (a, HO.lst xs) ∈ L) ∧ DpAll K B xs (as.map enc)) as.zipIdx (fun B x y => ∃ T u, x = .ref T ∧ B T = some (.tup [.int (y.2 : Nat), u]) ∧ Dp K B u (enc y.1)) := by
  by_cases hl : xs.length = as.length
  · refine ⟨_, _, (by rw [List.length_zipIdx]; exact hl ▸ walk_enum (xs := xs)), fun F B L H S g => ?_, fun F B L i H x H' S g y hi => ?_⟩
    · rcases g.1 with h | h
      · exact S.sqB h
      · exact S.sqMem h
    · obtain ⟨T, x', y', rfl, n, rfl, e1, e2⟩ := y
      cases e1
      obtain ⟨d, hd, hx⟩ := g.2.get e2
      rw [List.getElem?_map] at hd
      cases e : as[i]? with
      | none => rw [e] at hd; cases hd
      | some z =>
        rw [e] at hd
        cases hd
        exact ⟨(z, i), upd B T (.tup [.int (i : Nat), y']), getElem_zipIdx e, S.exB n, S.newB n, T, y', rfl, upd_same, hx.up (S.exB n)⟩
  · refine ⟨fun _ => False, fun _ _ _ _ => False, ⟨fun _ _ _ h => h.elim, fun _ h => h.elim, fun _ _ _ _ _ h => h.elim⟩, fun F B L H S g => hl ?_, fun F B L i H x H' S g y hi => y.elim⟩
    have := g.2.length
    rw [List.length_map] at this
    exact this
end

/-! readings of walks -/
section
variable {P : Program} {w : World} {K : PySem.W.Frag} {σ : L2.St} {H : Hp} {tg : Expr} {te tx : TE} {g : TG} {tb : TS} {tt : TT} {vs : List Nat} {D : Ends} {Q : VK} {R : It → Hp → Prop} {wi : TI} {ta : TA}
theorem r_for (k : wi σ H (ForW g tb D σ)) : tFor wi g tb D σ H := k
theorem r_lc (k : wi σ H (LcW g tt te vs σ Q)) : tLc wi g tt te vs σ H Q := k
theorem r_dc {tk tv : TE} (k : wi σ H (DcW g tt tk tv vs σ Q)) : tDc wi g tt tk tv vs σ H Q := k
theorem r_val (k : te σ H fun v H1 => ItU P w K tg v H1 R) : iVal P w K tg te σ H R := k
def RngQ (R : It → Hp → Prop) : List V → Hp → Prop := fun vs H => ∃ j : Int, vs = [.int j] ∧ -(2 ^ 62) ≤ j ∧ j < 2 ^ 62 ∧ R (Itr 0 j.toNat) H
theorem r_rng1 (k : ta σ H (RngQ R)) : iRng1 ta σ H R := k
theorem rngQ {j : Int} (h1 : -(2 ^ 62) ≤ j) (h2 : j < 2 ^ 62) (k : R (Itr 0 j.toNat) H) : RngQ R [.int j] H := ⟨j, rfl, h1, h2, k⟩
def StrQ (R : It → Hp → Prop) : V → Hp → Prop := fun v H => ∃ x, v = .str x ∧ R (Its x) H
theorem r_str (k : te σ H (StrQ R)) : iStr te σ H R := k
theorem strQ {z : Str} (k : R (Its z) H) : StrQ R (.str z) H := ⟨z, rfl, k⟩
def ItmQ (R : It → Hp → Prop) : V → Hp → Prop := fun x H1 => ∃ d o kvs, x = .ref d ∧ H1 d = some (.frz o (.dK kvs)) ∧ R (Iti d o kvs) H1
def KeyQ (R : It → Hp → Prop) : V → Hp → Prop := fun x H1 => ∃ d o, x = .ref d ∧ ((∃ kvs, H1 d = some (.frz o (.dK kvs)) ∧ R (Itk d o kvs) H1) ∨ ∃ kvs, H1 d = some (.frz o (.dT kvs)) ∧ R (Itkt d o kvs) H1)
def VlsQ (R : It → Hp → Prop) : V → Hp → Prop := fun x H1 => ∃ d o kvs, x = .ref d ∧ H1 d = some (.frz o (.dK kvs)) ∧ R (Itd d o kvs) H1
theorem r_items (k : te σ H (ItmQ R)) : iItems te σ H R := k
theorem r_keys (k : te σ H (KeyQ R)) : iKeys te σ H R := k
theorem r_values (k : te σ H (VlsQ R)) : iVals te σ H R := k
theorem itmQ {d : Addr} {o : Obj} {kvs : List (Key × V)} (h : H d = some (.frz o (.dK kvs))) (k : R (Iti d o kvs) H) : ItmQ R (.ref d) H := ⟨d, o, kvs, rfl, h, k⟩
theorem keyQ {d : Addr} {o : Obj} {kvs : List (Key × V)} (h : H d = some (.frz o (.dK kvs))) (k : R (Itk d o kvs) H) : KeyQ R (.ref d) H := ⟨d, o, rfl, .inl ⟨kvs, h, k⟩⟩
theorem vlsQ {d : Addr} {o : Obj} {kvs : List (Key × V)} (h : H d = some (.frz o (.dK kvs))) (k : R (Itd d o kvs) H) : VlsQ R (.ref d) H := ⟨d, o, kvs, rfl, h, k⟩
def EnuQ (K : PySem.W.Frag) (R : It → Hp → Prop) : List V → Hp → Prop := fun vs H1 => ∃ a xs, vs = [.ref a] ∧ SqL K H1 a xs ∧ R (Ite K a) H1
theorem r_enum (k : ta σ H (EnuQ K R)) : iEnum K ta σ H R := k
theorem enuQ {a : Addr} {xs : List V} (h : SqL K H a xs) (k : R (Ite K a) H) : EnuQ K R [.ref a] H := ⟨a, xs, rfl, h, k⟩
/-! a dict locked for a walk -/
def LckQ (d : Addr) (od : Obj) (u : HO) (Q : VK) : VK := fun v H' => H' d = some (.frz od u) ∧ Q v (upd H' d u)
theorem r_lockE {t : TE} {d : Addr} {u : HO} (h : H d = some u) (mu : Mut (some u)) (k : ∀ od, t σ (upd H d (.frz od u)) (LckQ d od u Q)) : tLockE t σ H Q := ⟨d, u, h, mu, k⟩
def LckD (d : Addr) (od : Obj) (u : HO) (D : Ends) : Ends := ⟨fun σ' H' => H' d = some (.frz od u) ∧ D.nx σ' (upd H' d u), fun v H' => H' d = some (.frz od u) ∧ D.rt v (upd H' d u), fun σ' H' => H' d = some (.frz od u) ∧ D.bk σ' (upd H' d u), fun σ' H' => H' d = some (.frz od u) ∧ D.ct σ' (upd H' d u)⟩
theorem r_lockS {t : TS} {d : Addr} {u : HO} (h : H d = some u) (mu : Mut (some u)) (k : ∀ od, t (LckD d od u D) σ (upd H d (.frz od u))) : tLock t D σ H := ⟨d, u, h, mu, k⟩
/-! targets -/
section
variable {F : Ent} {B : Hp} {L : Led} {gs : TGs} {n : Nat} {v : V} {QG : L2.St → Hp → Prop}
theorem r_gtupD {ds : List PyData} (S : Ok F B L H) (h : Dp K B v (.tuple ds)) (hn : ds.length = n) (k : ∀ vs, DpAll K B vs ds → gs vs σ H QG) : gTup K n gs v σ H QG := by
  obtain ⟨a, xs, rfl, hq, ha⟩ := Dp.tup_inv h
  exact ⟨a, xs, rfl, S.tqB hq, by rw [ha.length, hn], k xs ha⟩
theorem r_gtupSI {s : Str} {i : Int} (S : Ok F B L H) (h : Dp K B v (.tuple [.str s, .int i])) (k : gs [.str s, .int i] σ H QG) : gTup K 2 gs v σ H QG :=
  r_gtupD S h rfl fun vs ha => by
    obtain ⟨v1, r, rfl, h1, ha⟩ := ha.cons_inv
    obtain ⟨v2, r, rfl, h2, ha⟩ := ha.cons_inv
    obtain rfl := ha.nil_inv
    obtain rfl := h1.str_inv
    obtain rfl := h2.int_inv
    exact k
theorem r_gtupII {s i : Int} (S : Ok F B L H) (h : Dp K B v (.tuple [.int s, .int i])) (k : gs [.int s, .int i] σ H QG) : gTup K 2 gs v σ H QG :=
  r_gtupD S h rfl fun vs ha => by
    obtain ⟨v1, r, rfl, h1, ha⟩ := ha.cons_inv
    obtain ⟨v2, r, rfl, h2, ha⟩ := ha.cons_inv
    obtain rfl := ha.nil_inv
    obtain rfl := h1.int_inv
    obtain rfl := h2.int_inv
    exact k
theorem r_gtupB {a : Addr} {xs : List V} (S : Ok F B L H) (h : B a = some (.tup xs)) (hn : xs.length = n) (k : gs xs σ H QG) : gTup K n gs (.ref a) σ H QG := r_gtup (S.tqStay h) hn k
end
end
/-! more calls -/
section
variable {P : Program} {w : World} {K : PySem.W.Frag} {H B : Hp} {Q : VK} {F : Ent} {L : Led} {a : Addr}
theorem v_sum {ns : List Int} (h : SqL K H a (ns.map V.int)) (k : Q (.int ns.sum) H) : CallU P w K (.builtin "sum") [.ref a] H Q := .ofK (r := rSum) (fun _ al => cr_sum al.calm) ⟨a, ns, rfl, h, k⟩
theorem v_all {bs : List Bool} (h : SqL K H a (bs.map V.bl)) (k : Q (.bl (bs.all id)) H) : CallU P w K (.builtin "all") [.ref a] H Q := .ofK (r := rAll) (fun _ al => cr_all al.calm) ⟨a, bs, rfl, h, k⟩
theorem v_tupleL {xs : List V} (S : Ok F B L H) (h : SqL K H a xs) (k : ∀ p B' H', Ex B B' → B' p = some (.tup xs) → Ok F B' L H' → Q (.ref p) H') : CallU P w K (.type "tuple") [.ref a] H Q :=
  .ofK (r := fun K vs H Q => ∃ p ys, vs = [.ref p] ∧ ((SqL K H p ys ∧ ∀ l, H l = none → Q (.ref l) (upd H l (.tup ys))) ∨ (SqT K H p ys ∧ Q (.ref p) H))) (fun _ _ => call_tuple_of)
    ⟨a, xs, rfl, .inl ⟨h, fun p hp => k p _ _ (S.exB hp) upd_same (S.newB hp)⟩⟩
theorem v_tupleT {xs : List V} (h : SqT K H a xs) (k : Q (.ref a) H) : CallU P w K (.type "tuple") [.ref a] H Q :=
  .ofK (r := fun K vs H Q => ∃ p ys, vs = [.ref p] ∧ ((SqL K H p ys ∧ ∀ l, H l = none → Q (.ref l) (upd H l (.tup ys))) ∨ (SqT K H p ys ∧ Q (.ref p) H))) (fun _ _ => call_tuple_of)
    ⟨a, xs, rfl, .inr ⟨h, k⟩⟩
end
/-! fields -/
section
variable {K : PySem.W.Frag} {σ : L2.St} {H : Hp} {te tv : TE} {f : Str} {Q : VK} {D : Ends}
def FldQ (K : PySem.W.Frag) (f : Str) (Q : VK) : VK := fun x H1 => ∃ a C dx fs v, x = .ref a ∧ H1 a = some (.ins C dx fs) ∧ Cls K C ∧ NoAttr K C f ∧ fs.lookup f = some v ∧ Q v H1
theorem r_fld (k : te σ H (FldQ K f Q)) : tFld K te f σ H Q := k
theorem fldQ {a C dx : Addr} {fs : List (Str × V)} {v : V} (h : H a = some (.ins C dx fs)) (c : Cls K C) (n : NoAttr K C f) (l : fs.lookup f = some v) (k : Q v H) : FldQ K f Q (.ref a) H := ⟨a, C, dx, fs, v, rfl, h, c, n, l, k⟩
def SFdQ (K : PySem.W.Frag) (f : Str) (y : V) (D : Ends) (σ : L2.St) : VK := fun x H2 => ∃ a C dx fs, x = .ref a ∧ H2 a = some (.ins C dx fs) ∧ Cls K C ∧ NoAttr K C f ∧ fs.length < 1000 ∧ D.nx σ (upd H2 a (.ins C dx (putF f y fs)))
theorem r_sfld (k : tv σ H fun y H1 => te σ H1 (SFdQ K f y D σ)) : sFld K te tv f D σ H := k
theorem sfdQ {F : Ent} {B : Hp} {L : Led} {a C dx : Addr} {fs fs' : List (Str × V)} {y : V} (n : Nat) (S : Ok F B L H) (h : L[n]? = some (a, .ins C dx fs)) (c : Cls K C) (na : NoAttr K C f) (hl : fs.length < 1000) (hf : putF f y fs = fs') (k : ∀ H', Ok F B (L.set n (a, .ins C dx fs')) H' → D.nx σ H') : SFdQ K f y D σ (.ref a) H := by
  subst hf
  exact ⟨a, C, dx, fs, rfl, (S.own _ (List.mem_of_getElem? h)).1, c, na, hl, k _ (S.mutN n h)⟩
def AFdQ (K : PySem.W.Frag) (f : Str) (rd : V → V → Hp → VK → Prop) (tv : TE) (D : Ends) (σ : L2.St) : VK := fun x H1 => ∃ a C dx fs v, x = .ref a ∧ H1 a = some (.ins C dx fs) ∧ Cls K C ∧ NoAttr K C f ∧ fs.lookup f = some v ∧
  tv σ H1 fun y H2 => rd v y H2 fun z H3 => ∃ dx' fs', H3 a = some (.ins C dx' fs') ∧ fs'.length < 1000 ∧ D.nx σ (upd H3 a (.ins C dx' (putF f z fs')))
theorem r_afld {rd : V → V → Hp → VK → Prop} (k : te σ H (AFdQ K f rd tv D σ)) : sFldAug K te tv rd f D σ H := k
end
end WK
namespace WK
open PySem PySem.Spec PyProof.Rows L2
theorem r_yes {σ : L2.St} {H : Hp} {Q : Bool → Hp → Prop} (k : Q true H) : tYes σ H Q := k
theorem ifTt {A B : Prop} (k : A) : if true = true then A else B := by rw [if_pos rfl]; exact k
end WK
namespace WK
open PySem PySem.Spec PyProof.Rows L2
section
variable {α : Type} {J : It} {GB : Hp → Led → Prop} {as : List α} {R : Hp → V → α → Prop} {F : Ent} {B H1 : Hp} {L : Led} {σ : L2.St} {K : PySem.W.Frag}
/-- a comprehension that makes data of data -/
theorem lcPure (K : PySem.W.Frag) (src : Src J GB as R) {g : TG} {tt : TT} {te : TE} {vs : List Nat} {Q : VK} (S : Ok F B L H1) (hGB : ∀ B1 D acc, Ex B B1 → GB B1 ((D, .lst acc) :: L)) (keep : α → Bool) (f : α → PyData) (hz : as.length ≤ 100000)
    (hs : ∀ a x B1 D acc H1 (C : VK) (Cs : Hp → Prop), a ∈ as → Ex B B1 → Ok F B1 ((D, .lst acc) :: L) H1 → R B1 x a →
      (∀ y H4 B2, keep a = true → Ex B1 B2 → Ok F B2 ((D, .lst acc) :: L) H4 → Dp K B2 y (f a) → C y H4) → (∀ H3 B2, keep a = false → Ex B1 B2 → Ok F B2 ((D, .lst acc) :: L) H3 → Cs H3) →
      g x (wipe σ vs) H1 fun σ2 H2 => wipe σ2 vs = wipe σ vs ∧ tt σ2 H2 fun b H3 => if b = true then te σ2 H3 C else Cs H3)
    (hd : ∀ D acc B1 H1, Ex B B1 → Ok F B1 ((D, .lst acc) :: L) H1 → DpAll K B1 acc ((as.filter keep).map f) → Q (.ref D) H1) : LcW g tt te vs σ Q J H1 := by
  refine lcD src S (fun i acc B1 L1 => L1 = L ∧ Ex B B1 ∧ DpAll K B1 acc (((as.take i).filter keep).map f)) ⟨rfl, Ex.refl _, .nil⟩ ?_ ?_ ?_
  · rintro i acc B1 L1 D _ ⟨rfl, e, _⟩
    exact hGB B1 D acc e
  · rintro i a x acc B0 B1 L1 D H1 ha ⟨rfl, e, hd⟩ e1 S1 r
    have hm : a ∈ as := List.mem_of_getElem? ha
    have hlen : acc.length ≤ i := by
      have h1 := hd.length
      have h2 := List.length_filter_le keep (as.take i)
      rw [List.length_map] at h1
      rw [List.length_take] at h2
      omega
    have hi : i < as.length := (List.getElem?_eq_some_iff.mp ha).1
    have et : as.take (i + 1) = as.take i ++ [a] := by rw [List.take_add_one, ha]; rfl
    refine hs a x B1 D acc H1 _ _ hm (e.trans e1) S1 r (fun y H4 B2 hk e2 S2 hy => ?_) (fun H3 B2 hk e2 S2 => ?_)
    · refine Acc.mk S2 (by rw [sizeLine_eq]; omega) ⟨rfl, (e.trans e1).trans e2, ?_⟩
      rw [et, List.filter_append, List.map_append]
      have : [a].filter keep = [a] := by simp [hk]
      rw [this]
      exact (hd.up (e1.trans e2)).append (.cons hy .nil)
    · refine Skp.mk S2 ⟨rfl, (e.trans e1).trans e2, ?_⟩
      rw [et, List.filter_append]
      have : [a].filter keep = [] := by simp [hk]
      rw [this, List.append_nil]
      exact hd.up (e1.trans e2)
  · rintro acc B1 L1 D H1 ⟨rfl, e, hd'⟩ S1
    rw [List.take_length] at hd'
    exact hd D acc B1 H1 e S1 hd'
theorem lcPureT {P : Program} {w : World} {tg : Expr} {enc : α → PyData} {v : V} {g : TG} {tt : TT} {te : TE} {vs : List Nat} {Q : VK} (S : Ok F B L H1) (h : Dp K B v (.tuple (as.map enc))) (keep : α → Bool) (f : α → PyData) (hz : as.length ≤ 100000)
    (hs : ∀ a x B1 D acc H1 (C : VK) (Cs : Hp → Prop), a ∈ as → Ex B B1 → Ok F B1 ((D, .lst acc) :: L) H1 → Dp K B1 x (enc a) →
      (∀ y H4 B2, keep a = true → Ex B1 B2 → Ok F B2 ((D, .lst acc) :: L) H4 → Dp K B2 y (f a) → C y H4) → (∀ H3 B2, keep a = false → Ex B1 B2 → Ok F B2 ((D, .lst acc) :: L) H3 → Cs H3) →
      g x (wipe σ vs) H1 fun σ2 H2 => wipe σ2 vs = wipe σ vs ∧ tt σ2 H2 fun b H3 => if b = true then te σ2 H3 C else Cs H3)
    (hd : ∀ D acc B1 H1, Ex B B1 → Ok F B1 ((D, .lst acc) :: L) H1 → DpAll K B1 acc ((as.filter keep).map f) → Q (.ref D) H1) : ItU P w K tg v H1 (LcW g tt te vs σ Q) := by
  obtain ⟨a, xs, rfl, hq, ha⟩ := Dp.tup_inv h
  exact ItU.tup (S.tqB hq) (lcPure K src_tup S (fun B1 D acc e => ⟨e.sqT hq, ha.up e⟩) keep f hz hs hd)
theorem lcPureL {P : Program} {w : World} {tg : Expr} {enc : α → PyData} {v : V} {g : TG} {tt : TT} {te : TE} {vs : List Nat} {Q : VK} (S : Ok F B L H1) (h : Dp K B v (.list (as.map enc))) (keep : α → Bool) (f : α → PyData) (hz : as.length ≤ 100000)
    (hs : ∀ a x B1 D acc H1 (C : VK) (Cs : Hp → Prop), a ∈ as → Ex B B1 → Ok F B1 ((D, .lst acc) :: L) H1 → Dp K B1 x (enc a) →
      (∀ y H4 B2, keep a = true → Ex B1 B2 → Ok F B2 ((D, .lst acc) :: L) H4 → Dp K B2 y (f a) → C y H4) → (∀ H3 B2, keep a = false → Ex B1 B2 → Ok F B2 ((D, .lst acc) :: L) H3 → Cs H3) →
      g x (wipe σ vs) H1 fun σ2 H2 => wipe σ2 vs = wipe σ vs ∧ tt σ2 H2 fun b H3 => if b = true then te σ2 H3 C else Cs H3)
    (hd : ∀ D acc B1 H1, Ex B B1 → Ok F B1 ((D, .lst acc) :: L) H1 → DpAll K B1 acc ((as.filter keep).map f) → Q (.ref D) H1) : ItU P w K tg v H1 (LcW g tt te vs σ Q) := by
  obtain ⟨a, xs, rfl, hq, ha⟩ := Dp.lst_inv h
  exact ItU.list (S.sqB hq) (lcPure K src_lst S (fun B1 D acc e => ⟨.inl (e.sqL hq), ha.up e⟩) keep f hz hs hd)
end
theorem filter_tt {α : Type} (as : List α) : as.filter (fun _ => true) = as := by simp
end WK
namespace WK
open PySem PySem.Spec PyProof.Rows L2
section
variable {P : Program} {w : World} {F : Ent} {B H : Hp} {L : Led} {K : PySem.W.Frag} {D : Addr} {acc : List V} {ds : List PyData} {Q : VK} {v : V}
/-- a list of one's own is data from now on -/
theorem Ok.toData (S : Ok F B ((D, .lst acc) :: L) H) (h : DpAll K B acc ds) : ∃ B', Ex B B' ∧ Ok F B' L H ∧ Dp K B' (.ref D) (.list ds) :=
  ⟨_, S.exF, S.freeze, .lst (SqL.of upd_same) (h.up S.exF)⟩
theorem Dp.ofTup {a : Addr} (h : B a = some (.tup acc)) (hd : DpAll K B acc ds) : Dp K B (.ref a) (.tuple ds) := .tup (SqT.of h) hd
theorem v_lenDL (S : Ok F B L H) (h : Dp K B v (.list ds)) (k : Q (.int ds.length) H) : CallU P w K (.builtin "len") [v] H Q := by
  obtain ⟨a, xs, rfl, hq, ha⟩ := Dp.lst_inv h
  refine v_lenL (S.sqB hq) ?_
  rw [ha.length]
  exact k
theorem v_lenDT (S : Ok F B L H) (h : Dp K B v (.tuple ds)) (k : Q (.int ds.length) H) : CallU P w K (.builtin "len") [v] H Q := by
  obtain ⟨a, xs, rfl, hq, ha⟩ := Dp.tup_inv h
  refine v_lenT (S.tqB hq) ?_
  rw [ha.length]
  exact k
theorem v_allD {bs : List Bool} (S : Ok F B L H) (h : Dp K B v (.list (bs.map PyData.bool))) (k : Q (.bl (bs.all id)) H) : CallU P w K (.builtin "all") [v] H Q := by
  obtain ⟨a, xs, rfl, hq, ha⟩ := Dp.lst_inv h
  rw [ha.bools] at hq
  exact v_all (S.sqB hq) k
theorem v_sumD {ns : List Int} (S : Ok F B L H) (h : Dp K B v (.list (ns.map PyData.int))) (k : Q (.int ns.sum) H) : CallU P w K (.builtin "sum") [v] H Q := by
  obtain ⟨a, xs, rfl, hq, ha⟩ := Dp.lst_inv h
  rw [ha.ints] at hq
  exact v_sum (S.sqB hq) k
/-- tuple(a list of data) -/
theorem v_tupD (S : Ok F B L H) (h : Dp K B v (.list ds)) (k : ∀ p B' H', Ex B B' → Ok F B' L H' → Dp K B' (.ref p) (.tuple ds) → Q (.ref p) H') : CallU P w K (.type "tuple") [v] H Q := by
  obtain ⟨a, xs, rfl, hq, ha⟩ := Dp.lst_inv h
  exact v_tupleL S (S.sqB hq) fun p B' H' e hp S' => k p B' H' e S' (Dp.ofTup hp (ha.up e))
theorem v_tupDT (S : Ok F B L H) (h : Dp K B v (.tuple ds)) (k : Q v H) : CallU P w K (.type "tuple") [v] H Q := by
  obtain ⟨a, xs, rfl, hq, ha⟩ := Dp.tup_inv h
  exact v_tupleT (S.tqB hq) k
/-- a display of data -/
theorem new_tupD {vs : List V} (S : Ok F B L H) (h : DpAll K B vs ds) (hz : vs.length ≤ 1000) (k : ∀ p B' H', Ex B B' → Ok F B' L H' → Dp K B' (.ref p) (.tuple ds) → Q (.ref p) H') : NewT vs H Q :=
  new_tup S (by rw [sizeLine_eq]; omega) fun p B' H' e hp S' => k p B' H' e S' (Dp.ofTup hp (h.up e))
end
end WK
namespace WK
open PySem PySem.Spec PyProof.Rows L2
section
variable {F : Ent} {B H B' H' : Hp} {L L' : Led} {a : Addr} {u : HO} {od : Obj}
/-- a thing of the caller's that is locked for a while: one's own meanwhile -/
theorem Ok.lock (S : Ok F B L H) (h : H a = some u) (hb : B a = none) (hl : a ∉ L.map (·.1)) : Ok ⟨B, upd H a (.frz od u), a :: L.map (·.1)⟩ B ((a, .frz od u) :: L) (upd H a (.frz od u)) := by
  refine Ok.start (L := (a, .frz od u) :: L) (fun b o e => ?_) (List.nodup_cons.mpr ⟨hl, S.nd⟩) fun q hq => ?_
  · rw [upd_ne (ne_of_none e hb)]; exact S.ex b o e
  · rcases List.mem_cons.mp hq with rfl | hq
    · exact ⟨upd_same, hb⟩
    · obtain ⟨e1, e2⟩ := S.own q hq
      exact ⟨by rw [upd_ne fun z => hl (by rw [← z]; exact List.mem_map.mpr ⟨q, hq, rfl⟩)]; exact e1, e2⟩
theorem Ok.unlock (S : Ok F B L H) (h : H a = some u) (hb : B a = none) (hl : a ∉ L.map (·.1)) (T : Ok ⟨B, upd H a (.frz od u), a :: L.map (·.1)⟩ B' ((a, .frz od u) :: L') H') : H' a = some (.frz od u) ∧ Ok F B' L' (upd H' a u) := by
  obtain ⟨e0, nb⟩ := T.own _ (List.mem_cons_self ..)
  have ndT := List.nodup_cons.mp T.nd
  have nl : ∀ q ∈ L', q.1 ≠ a := fun q hq z => ndT.1 (List.mem_map.mpr ⟨q, hq, z⟩)
  have old : ∀ b o, H b = some o → b ∉ L.map (·.1) → upd H' a u b = some o := fun b o e hn => by
    by_cases z : b = a
    · subst z
      rw [upd_same, ← e, h]
    · rw [upd_ne z]
      refine T.keep b o (by show upd H a _ b = _; rw [upd_ne z]; exact e) fun y => ?_
      rcases List.mem_cons.mp y with y | y
      · exact z y
      · exact hn y
  have oldF : ∀ b, (upd H a (.frz od u)) b = none → H b = none := fun b e => by
    by_cases z : b = a
    · rw [z, upd_same] at e; cases e
    · rw [upd_ne z] at e; exact e
  have oldL : ∀ b, b ∈ L.map (·.1) → b ∈ F.A ∨ F.H b = none := fun b hb' => by
    obtain ⟨q, hq, rfl⟩ := List.mem_map.mp hb'
    exact S.fL q hq
  have noneF : ∀ b, H b = none → F.H b = none := fun b e => (S.fresh e).1
  refine ⟨e0, fun b o e => ?_, ndT.2, fun q hq => ?_, S.ex0.trans T.ex0, fun b o e hn => ?_, fun b hb' => ?_, fun b o e => ?_, fun q hq => ?_⟩
  · rw [upd_ne (ne_of_none e nb)]; exact T.ex b o e
  · obtain ⟨e1, e2⟩ := T.own q (List.mem_cons_of_mem _ hq)
    exact ⟨by rw [upd_ne (nl q hq)]; exact e1, e2⟩
  · refine old b o (S.keep b o e hn) fun z => ?_
    rcases oldL b z with y | y
    · exact hn y
    · rw [y] at e; cases e
  · obtain ⟨o, e⟩ := S.kA b hb'
    by_cases z : b ∈ L.map (·.1)
    · obtain ⟨o', e'⟩ := T.kA b (List.mem_cons_of_mem _ z)
      by_cases y : b = a
      · exact ⟨u, by rw [y]; exact upd_same⟩
      · exact ⟨o', by rw [upd_ne y]; exact e'⟩
    · exact ⟨o, old b o e z⟩
  · rcases T.fB b o e with ⟨w, z⟩ | z | z
    · exact S.fB b w z
    · exact .inr (.inl (noneF b (oldF b z)))
    · rcases List.mem_cons.mp z with z | z
      · rw [z] at e; exact absurd (e.symm.trans nb) (by simp)
      · rcases oldL b z with y | y
        · exact .inr (.inr y)
        · exact .inr (.inl y)
  · rcases T.fL q (List.mem_cons_of_mem _ hq) with z | z
    · rcases List.mem_cons.mp z with z | z
      · exact absurd z (nl q hq)
      · exact oldL _ z
    · exact .inr (noneF _ (oldF _ z))
/-- a dict of one's own is let go: it stays, locked, from now on -/
theorem Ok.freezeD (S : Ok F B ((a, u) :: L) H) : ∃ B', Ex B B' ∧ B' a = some (.frz od u) ∧ Ok F B' L (upd H a (.frz od u)) := by
  have S1 : Ok F B ((a, .frz od u) :: L) (upd H a (.frz od u)) := S.mut
  exact ⟨_, S1.exF, upd_same, S1.freeze⟩
end
section
variable {X : Cx}
/-- a thing locked for good: for the expression, or the statements, that follow -/
def tFrzE (t : TE) : TE := fun σ H Q => t σ H Q ∨ ∃ d u, H d = some u ∧ Mut (some u) ∧ ∀ od, t σ (upd H d (.frz od u)) Q
theorem pe_frz {e : Expr} {t : TE} (h : PE X e t) : PE X e (tFrzE t) := by
  refine ⟨fun pins s σ H Q I hw => ?_⟩
  rcases hw with hw | ⟨d, u, hd, mu, hw⟩
  · exact h.run pins s σ H Q I hw
  · obtain ⟨od, I1⟩ := I.lock hd mu
    exact h.run pins s σ _ Q I1 (hw od)
theorem frzE {t : TE} {σ : L2.St} {H : Hp} {Q : VK} {d : Addr} {u : HO} (h : H d = some u) (mu : Mut (some u)) (k : ∀ od, t σ (upd H d (.frz od u)) Q) : tFrzE t σ H Q := .inr ⟨d, u, h, mu, k⟩
theorem frzN {t : TE} {σ : L2.St} {H : Hp} {Q : VK} (k : t σ H Q) : tFrzE t σ H Q := .inl k
def tFrzS (t : TS) : TS := fun D σ H => t D σ H ∨ ∃ d u, H d = some u ∧ Mut (some u) ∧ ∀ od, t D σ (upd H d (.frz od u))
theorem ps_frz {st : Stmt} {t : TS} (h : PS X st t) : PS X st (tFrzS t) := by
  refine ⟨fun pins s σ H D I hw => ?_⟩
  rcases hw with hw | ⟨d, u, hd, mu, hw⟩
  · exact h.run pins s σ H D I hw
  · obtain ⟨od, I1⟩ := I.lock hd mu
    exact h.run pins s σ _ D I1 (hw od)
theorem frzS {t : TS} {σ : L2.St} {H : Hp} {D : Ends} {d : Addr} {u : HO} (h : H d = some u) (mu : Mut (some u)) (k : ∀ od, t D σ (upd H d (.frz od u))) : tFrzS t D σ H := .inr ⟨d, u, h, mu, k⟩
end
end WK

namespace WK
open PySem PySem.Spec PyProof.Rows L2
theorem valV_none {κ : Type} [DecidableEq κ] {kvs : List (κ × V)} {k : κ} (h : k ∉ kvs.map (·.1)) : valV kvs k = none := by
  cases e : valV kvs k with
  | none => rfl
  | some w => exact absurd (valV_in e) h
section
variable {α : Type} {J : It} {GB : Hp → Led → Prop} {as : List α} {R : Hp → V → α → Prop} {F : Ent} {B H H1 : Hp} {L : Led} {σ : L2.St} {K : PySem.W.Frag}
/-- a dict whose keys are all new and whose values are fixed -/
theorem dcPure (src : Src J GB as R) {g : TG} {tt : TT} {tk tv : TE} {vs : List Nat} {Q : VK} (S : Ok F B L H1) (hGB : ∀ B1 D acc, Ex B B1 → GB B1 ((D, .dK acc) :: L)) (keep : α → Bool) (f : α → Key × V) (nd : (as.map fun a => (f a).1).Nodup) (hz : as.length ≤ 100000)
    (hs : ∀ a x B1 D acc H1 (C : V → VK) (Cs : Hp → Prop), a ∈ as → Ex B B1 → Ok F B1 ((D, .dK acc) :: L) H1 → R B1 x a →
      (∀ z H4 B2, keep a = true → z = (f a).2 → Ex B1 B2 → Ok F B2 ((D, .dK acc) :: L) H4 → C (kV (f a).1) z H4) → (∀ H3 B2, keep a = false → Ex B1 B2 → Ok F B2 ((D, .dK acc) :: L) H3 → Cs H3) →
      g x (wipe σ vs) H1 fun σ2 H2 => wipe σ2 vs = wipe σ vs ∧ tt σ2 H2 fun b H3 => if b = true then tk σ2 H3 fun y H4 => tv σ2 H4 (C y) else Cs H3)
    (hd : ∀ D B1 H1, Ex B B1 → Ok F B1 ((D, .dK ((as.filter keep).map f)) :: L) H1 → Q (.ref D) H1) : DcW g tt tk tv vs σ Q J H1 := by
  refine dcD src S (fun i acc B1 L1 => L1 = L ∧ Ex B B1 ∧ acc = ((as.take i).filter keep).map f) ⟨rfl, Ex.refl _, rfl⟩ ?_ ?_ ?_
  · rintro i acc B1 L1 D _ ⟨rfl, e, _⟩
    exact hGB B1 D acc e
  · rintro i a x acc B0 B1 L1 D H1 ha ⟨rfl, e, rfl⟩ e1 S1 r
    have hm : a ∈ as := List.mem_of_getElem? ha
    have hi : i < as.length := (List.getElem?_eq_some_iff.mp ha).1
    have et : as.take (i + 1) = as.take i ++ [a] := by rw [List.take_add_one, ha]; rfl
    have hlen : (((as.take i).filter keep).map f).length ≤ i := by
      have h2 := List.length_filter_le keep (as.take i)
      rw [List.length_map]
      rw [List.length_take] at h2
      omega
    refine hs a x B1 D _ H1 _ _ hm (e.trans e1) S1 r (fun z H4 B2 hk hz' e2 S2 => ?_) (fun H3 B2 hk e2 S2 => ?_)
    · refine AccD.mk (k := (f a).1) S2 rfl (by rw [sizeLine_eq]; omega) ⟨rfl, (e.trans e1).trans e2, ?_⟩
      subst hz'
      rw [et, List.filter_append, List.map_append]
      have : [a].filter keep = [a] := by simp [hk]
      rw [this]
      refine putK_new _ ?_
      cases ev : valV (((as.take i).filter keep).map f) (f a).1 with
      | none => rfl
      | some w =>
        exfalso
        have h1 := valV_in ev
        rw [List.map_map] at h1
        obtain ⟨b, hb, eb⟩ := List.mem_map.mp h1
        have hb' := (List.mem_filter.mp hb).1
        obtain ⟨j, hj⟩ := List.getElem?_of_mem hb'
        have hji : j < i := by
          have := (List.getElem?_eq_some_iff.mp hj).1
          rw [List.length_take] at this
          omega
        rw [List.getElem?_take_of_lt hji] at hj
        have q1 : (as.map fun a => (f a).1)[j]? = some (f b).1 := by rw [List.getElem?_map, hj]; rfl
        have q2 : (as.map fun a => (f a).1)[i]? = some (f a).1 := by rw [List.getElem?_map, ha]; rfl
        have q3 := (List.getElem?_inj (i := j) (j := i) (by rw [List.length_map]; omega) nd).mp (by rw [q1, q2]; exact congrArg some eb)
        omega
    · refine SkpD.mk S2 ⟨rfl, (e.trans e1).trans e2, ?_⟩
      rw [et, List.filter_append]
      have : [a].filter keep = [] := by simp [hk]
      rw [this, List.append_nil]
  · rintro acc B1 L1 D H1 ⟨rfl, e, rfl⟩ S1
    rw [List.take_length] at S1
    exact hd D B1 H1 e S1
end
end WK
namespace WK
open PySem PySem.Spec PyProof.Rows L2
section
variable {X : Cx}
/-- name = {..} on one line, the name a local -/
theorem ps_setDc {i : Nat} {y : Str} {py : Pos} {kx vx tg iter : Expr} {ifs : List Expr} {scope : Scope} {own : List (Str × Nat)} {pos spos : Pos} {wi : TI} {g : TG} {tt : TT} {tk tv : TE} (hc : X.calm = true) (hN : X.N.Nodup) (hy : X.N[i]? = some y) (hyl : X.env.scope.names.lookup y = some .local)
    (hsw : swapsWith (.DictComp kx vx [⟨tg, iter, ifs, 0⟩] scope pos) (some (.Name y py)) spos.line X.env = pure true) (hi : PI X tg iter wi) (ok : BlkOk X.N X.env.scope scope own)
    (hg : ∀ (s : Shared) (H : Hp) (C : Addr) (cl : List (Str × Addr)) (fp : List Addr), PG (X.blk s H scope (compEnvC scope cl C X.env) fp) tg g) (ht : ∀ (s : Shared) (H : Hp) (C : Addr) (cl : List (Str × Addr)) (fp : List Addr), PTs (X.blk s H scope (compEnvC scope cl C X.env) fp) ifs tt)
    (hk : ∀ (s : Shared) (H : Hp) (C : Addr) (cl : List (Str × Addr)) (fp : List Addr), PE (X.blk s H scope (compEnvC scope cl C X.env) fp) kx tk)
    (he : ∀ (s : Shared) (H : Hp) (C : Addr) (cl : List (Str × Addr)) (fp : List Addr), PE (X.blk s H scope (compEnvC scope cl C X.env) fp) vx tv) (hs : ∀ x, foldedSetIterable iter X.env x = pure x := by intro _; rfl) :
    PS X (.Assign [.Name y py] (.DictComp kx vx [⟨tg, iter, ifs, 0⟩] scope pos) spos) (tAsg (tDc wi g tt tk tv (own.map (·.2))) (gName i)) := by
  refine ⟨fun pins s σ H D I h => ?_⟩
  rw [exec_Assign_Name_used _ _ _ _ hsw]
  refine wpAny_bind (wpAny_standAt (wpAny_bind ?_))
  show wpAny _ X.A (do let _ ← comprehension (.DictComp kx vx [⟨tg, iter, ifs, 0⟩] scope pos) scope X.env (firstIterPos [⟨tg, iter, ifs, 0⟩] pos) newDict false (eval iter X.env) (some (assign (.Name y py) X.env))) _ _ s
  have h : tDc wi g tt tk tv (own.map (·.2)) σ H (fun x H1 => gName i x σ H1 D.nx) := h
  refine wpAny_bind (thn (dc_core (Qf := fun _ s' => SP X pins D .next s') hc hN I hi ok hg ht hk he hs h fun L C s' m H' I' q hn f => ?_) fun _ s' hq => wpAny_pure (wpAny_pure hq))
  show wpAny _ _ (assign (.Name y py) X.env (.ref L)) _ _ _
  refine wpAny_assign_Name (store_ok2 (v := V.ref L) I' hN hy (.inl hyl) rfl (fun s2 I2 ⟨a, sb, ha⟩ => ?_) (.inr hyl))
  obtain ⟨f0, f1, f2, f3, f4, f5⟩ := f
  have haC : C ≠ a := by
    rcases ha with z | z
    · rw [z]; exact f1
    · exact fun e => f4 y a z e.symm
  refine ⟨m, hn.sameBut sb haC, fun h3 sb3 => ?_⟩
  exact ⟨_, H', I2.turned (t' := s2.toks) (fun b o hb e => (sb3.2 b hb).trans e) f0 f1 f3 f4 f5, q⟩
theorem sw_trueD {kx vx : Expr} {gs : List Comprehension} {scope : Scope} {pos py : Pos} {y : Str} {l : Nat} {env : Env} (hk : env.scope.kind = .function) (hy : env.scope.names.lookup y = some .local) (hl : (py.line == pos.line) = true)
    (ha : (scope.names.any fun (n, k) => n == y && (k == .local || k == .cell)) = false) : swapsWith (.DictComp kx vx gs scope pos) (some (.Name y py)) l env = pure true := by
  have ky : env.kindOf y = some .local := hy
  have hb : env.blockKind = .function := by unfold Env.blockKind; rw [hk]; rfl
  unfold swapsWith
  simp only [hb, ky, ha, Expr.pos, hl]
  rfl
end
end WK
namespace WK
open PySem PySem.Spec PyProof.Rows L2
section
variable {α : Type} {F : Ent} {B H : Hp} {L : Led} {σ : L2.St} {K : PySem.W.Frag} {P : Program} {w : World} {tg : Expr}
/-- what a turn of a loop is to reach, what stays only growing -/
structure NxE (F : Ent) (B : Hp) (I : L2.St → Hp → Led → Prop) (σ : L2.St) (H : Hp) : Prop where
  it : ∃ B1 L1, Ok F B1 L1 H ∧ Ex B B1 ∧ I σ B1 L1
theorem NxE.mk' {I : L2.St → Hp → Led → Prop} {B1 : Hp} (S : Ok F B1 L H) (e : Ex B B1) (h : I σ B1 L) : NxE F B I σ H := ⟨B1, L, S, e, h⟩
/-- any source that what stays carries -/
theorem forDS {J : It} {GB : Hp → Led → Prop} {as : List α} {R : Hp → V → α → Prop} (src : Src J GB as R) {g : TG} {tb : TS} {D : Ends} (S : Ok F B L H) (I : Nat → L2.St → Hp → Led → Prop) (hGB : ∀ i σ B1 L1, Ex B B1 → I i σ B1 L1 → GB B1 L1) (h0 : I 0 σ B L)
    (hs : ∀ i a x σ B0 B1 L H, as[i]? = some a → I i σ B0 L → Ex B B0 → Ex B0 B1 → Ok F B1 L H → R B1 x a → g x σ H fun σ2 H2 => tb { D with nx := NxE F B (I (i + 1)), ct := NxE F B (I (i + 1)), bk := D.nx } σ2 H2)
    (hd : ∀ σ B1 L H, I as.length σ B1 L → Ex B B1 → Ok F B1 L H → D.nx σ H) : ForW g tb D σ J H := by
  obtain ⟨G, Y, w, h1, h2⟩ := src.ex
  refine for_it w (fun i => NxE F B (I i)) (.mk' S (Ex.refl _) h0) (fun i σ H hi ⟨B1, L, S, e, q⟩ => h1 F B1 L H S (hGB i σ B1 L e q)) (fun i x σ H H' hi ⟨B1, L, S, e, q⟩ y => ?_) (fun σ H ⟨B1, L, S, e, q⟩ => hd σ B1 L H q e S)
  obtain ⟨a, B', ea, ex, S', r⟩ := h2 F B1 L i H x H' S (hGB i σ B1 L e q) y hi
  exact hs i a x σ B1 B' L H' ea q e ex S' r
/-- over a tuple of data -/
theorem forDT {as : List α} {enc : α → PyData} {v : V} {g : TG} {tb : TS} {D : Ends} (S : Ok F B L H) (h : Dp K B v (.tuple (as.map enc))) (I : Nat → L2.St → Hp → Led → Prop) (h0 : I 0 σ B L)
    (hs : ∀ i a x σ B0 B1 L H, as[i]? = some a → I i σ B0 L → Ex B B0 → Ex B0 B1 → Ok F B1 L H → Dp K B1 x (enc a) → g x σ H fun σ2 H2 => tb { D with nx := NxE F B (I (i + 1)), ct := NxE F B (I (i + 1)), bk := D.nx } σ2 H2)
    (hd : ∀ σ B1 L H, I as.length σ B1 L → Ex B B1 → Ok F B1 L H → D.nx σ H) : ItU P w K tg v H (ForW g tb D σ) := by
  obtain ⟨a, xs, rfl, hq, ha⟩ := Dp.tup_inv h
  exact ItU.tup (S.tqB hq) (forDS (src_tup (xs := xs) (as := as) (enc := enc)) S I (fun _ _ _ _ e _ => ⟨e.sqT hq, ha.up e⟩) h0 hs hd)
theorem forDL {as : List α} {enc : α → PyData} {v : V} {g : TG} {tb : TS} {D : Ends} (S : Ok F B L H) (h : Dp K B v (.list (as.map enc))) (I : Nat → L2.St → Hp → Led → Prop) (h0 : I 0 σ B L)
    (hs : ∀ i a x σ B0 B1 L H, as[i]? = some a → I i σ B0 L → Ex B B0 → Ex B0 B1 → Ok F B1 L H → Dp K B1 x (enc a) → g x σ H fun σ2 H2 => tb { D with nx := NxE F B (I (i + 1)), ct := NxE F B (I (i + 1)), bk := D.nx } σ2 H2)
    (hd : ∀ σ B1 L H, I as.length σ B1 L → Ex B B1 → Ok F B1 L H → D.nx σ H) : ItU P w K tg v H (ForW g tb D σ) := by
  obtain ⟨a, xs, rfl, hq, ha⟩ := Dp.lst_inv h
  exact ItU.list (S.sqB hq) (forDS (src_lst (xs := xs) (as := as) (enc := enc)) S I (fun _ _ _ _ e _ => ⟨.inl (e.sqL hq), ha.up e⟩) h0 hs hd)
end
end WK
namespace WK
open PySem PySem.Spec PyProof.Rows L2
/-- what was added to what stays is dropped again -/
theorem Ok.rebase {B B0 B' H H' : Hp} {A : List Addr} {L : Led} (e : Ex B B0) (T : Ok ⟨B0, H, A⟩ B' L H') : Ok ⟨B, H, A⟩ B L H' := by
  have e1 : Ex B B' := e.trans T.ex0
  refine ⟨e1.trans T.ex, T.nd, fun q hq => ⟨(T.own q hq).1, ?_⟩, Ex.refl _, T.keep, T.kA, fun b o h => .inl ⟨o, h⟩, T.fL⟩
  cases h : B q.1 with
  | none => rfl
  | some o =>
    have h2 := (T.own q hq).2
    rw [e1 _ _ h] at h2
    cases h2
end WK
namespace WK
open PySem PySem.Spec PyProof.Rows L2
/-- over a list or a tuple of data -/
theorem forDA {α : Type} {F : Ent} {B H : Hp} {L : Led} {σ : L2.St} {K : PySem.W.Frag} {P : Program} {w : World} {tg : Expr} {as : List α} {enc : α → PyData} {v : V} {d : PyData} {g : TG} {tb : TS} {D : Ends} (S : Ok F B L H) (h : Dp K B v d) (hd' : d = .list (as.map enc) ∨ d = .tuple (as.map enc)) (I : Nat → L2.St → Hp → Led → Prop) (h0 : I 0 σ B L)
    (hs : ∀ i a x σ B0 B1 L H, as[i]? = some a → I i σ B0 L → Ex B B0 → Ex B0 B1 → Ok F B1 L H → Dp K B1 x (enc a) → g x σ H fun σ2 H2 => tb { D with nx := NxE F B (I (i + 1)), ct := NxE F B (I (i + 1)), bk := D.nx } σ2 H2)
    (hd : ∀ σ B1 L H, I as.length σ B1 L → Ex B B1 → Ok F B1 L H → D.nx σ H) : ItU P w K tg v H (ForW g tb D σ) := by
  rcases hd' with rfl | rfl
  · exact forDL S h I h0 hs hd
  · exact forDT S h I h0 hs hd
end WK

namespace WK
open PySem PySem.Spec PyProof.Rows L2 PyProof.V PySem.Calls
section
variable {X : Cx} {o : Expr} {p pos apos mpos : Pos} {td : TE}
/-- sum(o.values()), a dict with int values -/
def SumQ (Q : VK) : VK := fun x H1 => ∃ (a : Addr) (kvs : List (Key × V)) (is : List Int), x = V.ref a ∧ Rd H1 a (.dK kvs) ∧ kvs.map (·.2) = is.map V.int ∧ Q (.int is.sum) H1
def tSumVals (td : TE) : TE := fun σ H Q => td σ H (SumQ Q)
theorem r_sumVals {σ : L2.St} {H : Hp} {Q : VK} (k : td σ H (SumQ Q)) : tSumVals td σ H Q := k
theorem sumQ {H : Hp} {Q : VK} {a : Addr} {kvs : List (Key × V)} {is : List Int} (h : Rd H a (.dK kvs)) (e : kvs.map (·.2) = is.map V.int) (k : Q (.int is.sum) H) : SumQ Q (.ref a) H := ⟨a, kvs, is, rfl, h, e, k⟩
theorem pe_sumVals (hc : X.calm = true) (hg : Gl X "sum") (hm : X.mg "sum" = none) (hd : PE X o td) (hbase : attributeBase o "values" X.env (eval o X.env) = eval o X.env := by rfl) (hline : (apos.endLine == mpos.line) = true := by rfl)
    (hse : starEach [Expr.Call (.Attribute o "values" apos) [] [] mpos] X.env = [(false, eval (Expr.Call (.Attribute o "values" apos) [] [] mpos) X.env)] := by rfl) :
    PE X (.Call (.Name "sum" p) [.Call (.Attribute o "values" apos) [] [] mpos] [] pos) (tSumVals td) := by
  refine ⟨fun pins s σ H Q I h => ?_⟩
  refine wpAny_Call_Name_kw (ld_blt I hg hm (u := .builtin "sum") (by first | rfl | decide +kernel) ?_ (by first | decide +kernel | decide) (by first | decide +kernel | decide))
  rw [hse]
  refine PySem.callWith_builtin1 (wpAny_Call_method0_late hbase hline (thn (hd.run pins s σ H _ I h) fun v s1 ⟨x, H1, I1, r1, a, kvs, is, ex, ha, hv, q⟩ => ?_))
  subst ex
  obtain rfl : v = Value.ref a := r1
  obtain ⟨_, hsys, vs, rel, dof⟩ := dk_rd I1.hok ha
  obtain ⟨ep, dat⟩ := dof.dictAt
  have dat' := dat
  obtain ⟨ob, es, ho, ex, hdat, hko, hpr, hnd⟩ := dat'
  refine ⟨"dict", "dict.values", F.plainAttrs_dict, F.slot_dict_values, F.type_dict_values, ⟨ob, ho, ex.1⟩, fun b e => ?_, Calls.callWith_builtin rfl (PySem.evalArgs_none ?_)⟩
  · cases e
    exact ⟨ob, ho, ex.2.1⟩
  refine call_meetsIn F.slot_dict_values ⟨ob, ho, ex.1⟩ F.entry_dict_values (F.args_dict_values_1 _) (meets_dict_values (mixKind X.prog X.w) a hsys) ⟨⟨vs, dof⟩, ?_⟩
  have k1 : ∀ b u, s1.heap.get? b = some u → (s1.heap.push { cls := .type "dict_values", data := .fields #[.ref a] }).get? b = some u := fun b u e => Heap.get?_push_of_some _ e
  have dat1 : (s1.heap.push { cls := .type "dict_values", data := .fields #[.ref a] }).DictAt (mixKind X.prog X.w) a vs ep := dat.keep k1
  have hlv : vs.length = is.length := by
    have e1 := congrArg List.length hv
    rw [List.length_map, List.length_map] at e1
    rw [← e1]
    exact (KV.length rel).symm
  have hval : ∀ (i : Nat) (v : Value), (∃ k, vs[i]? = some (k, v)) → ∃ t, v = Value.int (is.getD i 0) t := fun i v ⟨k, hk⟩ => by
    obtain ⟨x, h1, h2⟩ := KV.at' rel hk
    have e1 : (kvs.map (·.2))[i]? = some x := by rw [List.getElem?_map, h1] <;> rfl
    rw [hv, List.getElem?_map] at e1
    obtain ⟨j, hj, e2⟩ := Option.map_eq_some_iff.mp e1
    subst e2
    obtain ⟨t, e3⟩ := h2
    refine ⟨t, ?_⟩
    rw [e3, List.getD_eq_getElem?_getD, hj] <;> rfl
  refine call_sum_walkAnyS (wpAny_pyIter_values (v := s1.heap.objs.size) (d := a) ⟨_, Heap.get?_push_size _ rfl, rfl, rfl⟩ dat1 ?_)
  have hlt : a < s1.heap.objs.size := Heap.lt_size ho
  have hsz : (s1.heap.push { cls := .type "dict_values", data := .fields #[.ref a] }).objs.size = s1.heap.objs.size + 1 := Heap.size_push _ _
  refine ⟨_, _, _, _, _, _, _, fun i => is.getD i 0, rfl, (Walks.dictValues (knd := mixKind X.prog X.w) (A := X.A.in1) (I.ok.hd hc) (s1.heap.push { cls := .type "dict_values", data := .fields #[.ref a] }).objs.size a (by rw [hsz]; exact Nat.ne_of_lt (Nat.lt_succ_of_lt hlt)) vs ep).toS,
    ⟨⟨_, Heap.get?_push_size _ rfl, rfl, rfl⟩, dat1.keep fun b u e => Heap.get?_push_of_some _ e⟩, fun b hb => ?_, hval, fun s' t' hm => ?_⟩
  · show b < ((s1.heap.push _).push _).objs.size
    rw [Heap.size_push, Heap.size_push]
    rw [hsz] at hb
    rcases List.mem_cons.mp hb with e | hb
    · rw [e]
      exact Nat.lt_succ_self _
    · have e : b = a := List.mem_singleton.mp hb
      rw [e]
      exact Nat.lt_succ_of_lt (Nat.lt_succ_of_lt hlt)
  · have hk : ∀ b u, s1.heap.get? b = some u → s'.heap.get? b = some u := fun b u e =>
      hm.heap b u (fun hmem => by
        have e1 : b = (s1.heap.push { cls := .type "dict_values", data := .fields #[.ref a] }).objs.size := List.mem_singleton.mp hmem
        have e2 := Heap.lt_size e
        rw [hsz] at e1
        rw [e1] at e2
        exact absurd e2 (Nat.not_lt.mpr (Nat.le_succ _))) (Heap.get?_push_of_some _ (k1 b u e))
    have hsum : preSum (fun i => is.getD i 0) vs.length = is.sum := by
      rw [preSum_getD, hlv, List.take_length]
    rw [Moved.eq_with hm, hsum]
    exact ⟨.int _, H1, I1.kept (t' := s'.toks) hk, ⟨t', rfl⟩, q⟩
end
end WK
namespace WK
open PySem PySem.Spec PyProof.Rows L2
section
variable {F : Ent} {B H : Hp} {L : Led} {σ : L2.St} {Q : VK} {C : Addr} {m : Str} {sp : Sp} {ta : TE} {t : TA}
def MthQ (C : Addr) (m : Str) (sp : Sp) (t : TA) (σ : L2.St) (Q : VK) : VK := fun x H1 => ∃ a dx fs, x = .ref a ∧ H1 a = some (.ins C dx fs) ∧ fs.lookup m = none ∧ t σ H1 fun vs H2 => sp (x :: vs) H2 Q E0
theorem r_mth (k : ta σ H (MthQ C m sp t σ Q)) : tMth C m sp ta t σ H Q := k
theorem mthQ {a dx : Addr} {fs : List (Str × V)} (h : H a = some (.ins C dx fs)) (hl : fs.lookup m = none) (k : t σ H fun vs H2 => sp (.ref a :: vs) H2 Q E0) : MthQ C m sp t σ Q (.ref a) H := ⟨a, dx, fs, rfl, h, hl, k⟩
def RetQ (x : Addr) (Q : VK) : VK := fun v H2 => v = .non ∧ Q (.ref x) H2
theorem retQ {x : Addr} (k : Q (.ref x) H) : RetQ x Q .non H := ⟨rfl, k⟩
def MkQ (C : Addr) (sp : Sp) (Q : VK) : List V → Hp → Prop := fun vs H1 => ∀ x dx, H1 x = none → H1 dx = none → dx ≠ x → sp (.ref x :: vs) (upd (upd H1 dx (.own x)) x (.ins C dx [])) (RetQ x Q) E0
theorem r_mk (k : t σ H (MkQ C sp Q)) : tMk C sp t σ H Q := k
theorem mkQ {vs : List V} (S : Ok F B L H) (k : ∀ x dx H', Ok F B ((x, .ins C dx []) :: L) H' → sp (.ref x :: vs) H' (RetQ x Q) E0) : MkQ C sp Q vs H := fun x dx hx hdx ne =>
  k x dx _ ((S.junk hdx).newL (by rw [upd_ne (fun z => ne z.symm)]; exact hx))
end
end WK
namespace WK
open PySem PySem.Spec PyProof.Rows L2
/-- a def called with its last parameters by default -/
def FnGD (P : Program) (w : World) (K : PySem.W.Frag) (mg : Str → Option Value) (base : Heap) (k : Nat) (x : Str) (ps : List Str) (dvs : List V) (sp : Sp) : Prop :=
  ∃ f fd ds, FnOk P w K mg base CX0 k f fd ps sp ∧ mg x = some (.ref f) ∧ PySem.W.keepIn K (.ref f) = true ∧ Binds K fd ps ds ∧ Vals dvs ds
def spD (sp : Sp) (dvs : List V) : Sp := fun vs H Q E => sp (vs ++ dvs) H Q E
section
variable {X : Cx} {k : Nat} {x : Str} {ps : List Str} {dvs : List V} {sp : Sp} {e : Expr} {es : List Expr} {p pos : Pos} {t : TA}
theorem pe_fnD (G : FnGD X.prog X.w X.K X.mg X.base k x ps dvs sp) (hr : Room k X.A) (hg : Gl X x) (ha : PA X (e :: es) t) (hdb : (x == ("__debug__" : Str)) = false := by decide)
    (he : starEach (e :: es) X.env = (false, eval e X.env) :: starEach es X.env := by rfl) (hpl : (backTo pos (starEach es X.env)).any (·.1) = false := by rfl) : PE X (.Call (.Name x p) (e :: es) [] pos) (tFn (spD sp dvs) t) := by
  obtain ⟨f, fd, ds, F, hm, hk, hb, hd⟩ := G
  exact pe_call F hr hg hm hk hb hd pass0 ha hdb he hpl
end
end WK
namespace WK
open PySem PySem.Spec PyProof.Rows L2
theorem Src.map {α β : Type} {J : It} {GB : Hp → Led → Prop} {as : List α} {g : α → β} {R : Hp → V → β → Prop} (s : Src J GB (as.map g) R) : Src J GB as (fun B x a => R B x (g a)) := by
  obtain ⟨G, Y, w, h1, h2⟩ := s.ex
  rw [List.length_map] at w h2
  refine ⟨G, Y, w, h1, fun F B L i H x H' S q y hi => ?_⟩
  obtain ⟨b, B', e, ex, S', r⟩ := h2 F B L i H x H' S q y hi
  rw [List.getElem?_map] at e
  obtain ⟨a, ha, rfl⟩ := Option.map_eq_some_iff.mp e
  exact ⟨a, B', ha, ex, S', r⟩
end WK
namespace WK
open PySem PySem.Spec PyProof.Rows L2
section
variable {o e : Expr} {es : List Expr} {to : TE} {t : TA} {name : Str} {apos cpos : Pos} {T id : String} {r : V → List V → Hp → VK → Prop} {X : Cx}
theorem pe_bmU (K : PySem.W.Frag) (pa : PlainAttrs T) (slot : Slot T name id) (hty : typeOf (.builtin id) = pure (.type "method_descriptor")) (hm : MtR X id r) (ho : PE X o to) (ha : PA X (e :: es) t)
    (hbase : attributeBase o name X.env (eval o X.env) = eval o X.env := by rfl)
    (hfew : ((backTo cpos (starEach (e :: es) X.env)).all (fun x => !x.1) && (backToKw cpos (keywordEach [] X.env)).all (fun x => x.1.isSome)
      && decide ((e :: es).length + ([] : List Keyword).length + (if ([] : List Keyword).isEmpty then 0 else 1) < 30)) = true := by rfl)
    (hline : (apos.endLine == cpos.line) = true := by rfl) (hs : starEach (e :: es) X.env = (false, eval e X.env) :: starEach es X.env := by rfl) (hplain : (backTo cpos (starEach es X.env)).any (·.1) = false := by rfl) (hK : X.K = K := by rfl) :
    PE X (.Call (.Attribute o name apos) (e :: es) [] cpos) (tBM K T r to t) := by
  subst hK
  exact pe_bm pa slot hty hm ho ha hbase hfew hline hs hplain
theorem pe_bm0U (K : PySem.W.Frag) (pa : PlainAttrs T) (slot : Slot T name id) (hty : typeOf (.builtin id) = pure (.type "method_descriptor")) (hm : MtR X id r) (ho : PE X o to)
    (hbase : attributeBase o name X.env (eval o X.env) = eval o X.env := by rfl) (hline : (apos.endLine == cpos.line) = true := by rfl) (hK : X.K = K := by rfl) : PE X (.Call (.Attribute o name apos) [] [] cpos) (tBM0 K T r to) := by
  subst hK
  exact pe_bm0 pa slot hty hm ho hbase hline
end
section
variable {K : PySem.W.Frag} {F : Ent} {B H : Hp} {L : Led} {σ : L2.St} {Q : VK} {to : TE} {t : TA} {T : String} {r : V → List V → Hp → VK → Prop} {v : V} {a : Addr}
def BmQ (K : PySem.W.Frag) (T : String) (r : V → List V → Hp → VK → Prop) (t : TA) (σ : L2.St) (Q : VK) : VK := fun x H1 => tyV K T x H1 ∧ t σ H1 fun xs H2 => r x xs H2 Q
theorem r_bm (k : to σ H (BmQ K T r t σ Q)) : tBM K T r to t σ H Q := k
theorem r_bm0 (k : to σ H (BmQ K T r tNil σ Q)) : tBM0 K T r to σ H Q := k
theorem bmS {z : Str} (k : t σ H fun xs H2 => r (.str z) xs H2 Q) : BmQ K "str" r t σ Q (.str z) H := ⟨rfl, k⟩
theorem bmL {xs : List V} (h : SqL K H a xs) (k : t σ H fun xs H2 => r (.ref a) xs H2 Q) : BmQ K "list" r t σ Q (.ref a) H := ⟨.inl ⟨rfl, xs, h⟩, k⟩
theorem bmD {kvs : List (Key × V)} (h : H a = some (.dK kvs)) (k : t σ H fun xs H2 => r (.ref a) xs H2 Q) : BmQ K "dict" r t σ Q (.ref a) H := ⟨.inr (.inr (.inl ⟨rfl, .inl ⟨kvs, h⟩⟩)), k⟩
theorem bmDL {ds : List PyData} (S : Ok F B L H) (h : Dp K B v (.list ds)) (k : t σ H fun xs H2 => r v xs H2 Q) : BmQ K "list" r t σ Q v H := by
  obtain ⟨a, xs, rfl, hq, _⟩ := Dp.lst_inv h
  exact bmL (S.sqB hq) k
end
end WK

namespace WK
open PySem PySem.Spec PyProof.Rows L2
/-! ### data that can be told apart -/
theorem lay_all {ds : List PyData} (h : ∀ d ∈ ds, d.canLay0 = true) : PyData.canLayAll0 ds = true := by
  induction ds with
  | nil => rfl
  | cons d ds ih =>
    show (d.canLay0 && PyData.canLayAll0 ds) = true
    rw [h d (.head _), ih fun x hx => h x (.tail _ hx)]
    rfl
theorem depth_all {ds : List PyData} {n : Nat} (h : ∀ d ∈ ds, d.depth ≤ n) : PyData.depthAll ds ≤ n := by
  induction ds with
  | nil => exact Nat.zero_le _
  | cons d ds ih =>
    show max d.depth (PyData.depthAll ds) ≤ n
    exact Nat.max_le.mpr ⟨h d (.head _), ih fun x hx => h x (.tail _ hx)⟩
/-- shaped, with its depth -/
def Shp (n : Nat) (d : PyData) : Prop := d.canLay0 = true ∧ d.depth ≤ n
theorem Shp.lst {n : Nat} {ds : List PyData} (h : ∀ d ∈ ds, Shp n d) : Shp (n + 1) (.list ds) := ⟨lay_all fun d hd => (h d hd).1, Nat.succ_le_succ (depth_all fun d hd => (h d hd).2)⟩
theorem Shp.tup {n : Nat} {ds : List PyData} (h : ∀ d ∈ ds, Shp n d) : Shp (n + 1) (.tuple ds) := ⟨lay_all fun d hd => (h d hd).1, Nat.succ_le_succ (depth_all fun d hd => (h d hd).2)⟩
theorem Shp.int {n : Nat} {i : Int} : Shp n (.int i) := ⟨rfl, Nat.zero_le _⟩
theorem Shp.bl {n : Nat} {i : Bool} : Shp n (.bool i) := ⟨rfl, Nat.zero_le _⟩
theorem Shp.str {n : Nat} {z : Str} (h : z.cps.all (· < 0x110000) = true) : Shp n (.str z) := ⟨h, Nat.zero_le _⟩
theorem Shp.ok {n : Nat} {d : PyData} (h : Shp n d) (hn : n ≤ 64) : SeqAt.shaped d = true := by
  unfold SeqAt.shaped
  rw [h.1, decide_eq_true (Nat.le_trans h.2 hn)]
  rfl
section
variable {P : Program} {w : World} {K : PySem.W.Frag} {H B : Hp} {Q : VK} {F : Ent} {L : Led} {x y : V} {d : PyData} {n : Nat}
theorem v_neSame (S : Ok F B L H) (h1 : Dp K B x d) (h2 : Dp K B y d) (sh : Shp n d) (hn : n ≤ 64) (k : Q (.bl false) H) : OpU P w K (compareOp .NotEq) x y H Q :=
  .ofK (r := rNeD) (fun _ al => op_neD al.hu64) ⟨d, d, S.dp h1, S.dp h2, sh.ok hn, sh.ok hn, by rw [SeqAt.eqv_refl d sh.1]; exact k⟩
theorem v_eqSame (S : Ok F B L H) (h1 : Dp K B x d) (h2 : Dp K B y d) (sh : Shp n d) (hn : n ≤ 64) (k : Q (.bl true) H) : OpU P w K (compareOp .Eq) x y H Q :=
  .ofK (r := rEqD) (fun _ al => op_eqD al.hu64) ⟨d, d, S.dp h1, S.dp h2, sh.ok hn, sh.ok hn, by rw [SeqAt.eqv_refl d sh.1]; exact k⟩
theorem eqV_str {a b : Str} : eqV (.str a) (.str b) = decide (a = b) := by
  show (a == b) = decide (a = b)
  by_cases h : a = b
  · subst h; simp
  · rw [decide_eq_false h]; exact beq_eq_false_iff_ne.mpr h
theorem inV_strs (z : Str) (zs : List Str) : inV (.str z) (zs.map V.str) = decide (z ∈ zs) := by
  unfold inV
  rw [List.any_map]
  induction zs with
  | nil => rfl
  | cons a zs ih =>
    rw [List.any_cons, ih]
    show (eqV (.str a) (.str z) || _) = _
    rw [eqV_str]
    by_cases h : a = z
    · subst h; simp
    · rw [decide_eq_false h, Bool.false_or]
      by_cases h2 : z ∈ zs
      · rw [decide_eq_true h2]; exact (decide_eq_true (List.mem_cons_of_mem _ h2)).symm
      · rw [decide_eq_false h2]; exact (decide_eq_false (fun w => by rcases List.mem_cons.mp w with w | w; exact h w.symm; exact h2 w)).symm
theorem flat_strs (zs : List Str) : (zs.map V.str).all flatV = true := List.all_eq_true.mpr fun x hx => by
  obtain ⟨z, _, rfl⟩ := List.mem_map.mp hx
  rfl
theorem v_inStrs {z : Str} {zs : List Str} (S : Ok F B L H) (h : Dp K B y (.list (zs.map PyData.str))) (k : Q (.bl (decide (z ∈ zs))) H) : OpU P w K (compareOp .In) (.str z) y H Q := by
  obtain ⟨a, xs, rfl, hq, ha⟩ := Dp.lst_inv h
  obtain rfl := ha.strs
  exact .ofK (r := fun K => rIn K false) (fun _ _ => op_in_seq) ⟨a, _, rfl, .inl (S.sqB hq), rfl, flat_strs zs, by rw [if_neg (by decide), inV_strs]; exact k⟩
theorem v_indexStrs {z : Str} {zs : List Str} {j : Nat} (S : Ok F B L H) (h : Dp K B x (.list (zs.map PyData.str))) (hj : zs[j]? = some z) (hn : ∀ m, m < j → zs[m]? ≠ some z) (k : Q (.int (j : Nat)) H) : MetU P w K "list.index" x [.str z] H Q := by
  obtain ⟨a, xs, rfl, hq, ha⟩ := Dp.lst_inv h
  obtain rfl := ha.strs
  refine .ofK (r := rIndex) (fun _ _ => mt_index) ⟨a, _, .str z, j, .str z, rfl, rfl, S.sqB hq, rfl, flat_strs zs, by rw [List.getElem?_map, hj]; rfl, by rw [eqV_str]; exact decide_eq_true rfl, fun m z' hm hz' => ?_, k⟩
  rw [List.getElem?_map] at hz'
  obtain ⟨z2, e1, rfl⟩ := Option.map_eq_some_iff.mp hz'
  rw [eqV_str]
  exact decide_eq_false fun e => hn m hm (by rw [e1, e])
/-- slices of data -/
theorem cutV_to (xs : List V) (j : Nat) : cutV xs none (some (j : Int)) = xs.take j := by
  unfold cutV
  rw [HT.sIx_none, HT.sIx_nat, List.drop_zero, Nat.sub_zero]
  rcases Nat.le_total j xs.length with h | h
  · rw [Nat.min_eq_left h]
  · rw [Nat.min_eq_right h, List.take_length, List.take_of_length_le h]
theorem cutV_from (xs : List V) (j : Nat) : cutV xs (some (j : Int)) none = xs.drop j := by
  unfold cutV
  rw [HT.sIx_none, HT.sIx_nat]
  rcases Nat.le_total j xs.length with h | h
  · rw [Nat.min_eq_left h]
    exact List.take_of_length_le (by rw [List.length_drop]; exact Nat.le_refl _)
  · rw [Nat.min_eq_right h, List.drop_length, List.drop_of_length_le h]
    simp
theorem _root_.L2.DpAll.take {vs : List V} {ds : List PyData} (h : DpAll K B vs ds) (j : Nat) : DpAll K B (vs.take j) (ds.take j) := by
  induction j generalizing vs ds with
  | zero => exact .nil
  | succ j ih =>
    cases h with
    | nil => exact .nil
    | cons h t => exact .cons h (ih t)
theorem _root_.L2.DpAll.drop {vs : List V} {ds : List PyData} (h : DpAll K B vs ds) (j : Nat) : DpAll K B (vs.drop j) (ds.drop j) := by
  induction j generalizing vs ds with
  | zero => exact h
  | succ j ih =>
    cases h with
    | nil => exact .nil
    | cons h t => exact ih t
theorem _root_.L2.DpAll.rev {vs : List V} {ds : List PyData} (h : DpAll K B vs ds) : DpAll K B vs.reverse ds.reverse := by
  induction vs generalizing ds with
  | nil => cases h; exact .nil
  | cons v vs ih =>
    cases h with
    | cons h t =>
      rw [List.reverse_cons, List.reverse_cons]
      exact (ih t).append (.cons h .nil)
theorem v_slTo {ds : List PyData} {j : Nat} (S : Ok F B L H) (h : Dp K B x (.list ds)) (k : ∀ r B' H', Ex B B' → Ok F B' L H' → Dp K B' r (.list (ds.take j)) → Q r H') : SlU P w K x none (some (j : Int)) H Q := by
  obtain ⟨a, xs, rfl, hq, ha⟩ := Dp.lst_inv h
  refine .ofK (r := rSlL) (fun _ _ => sl_list) ⟨a, xs, rfl, S.sqB hq, fun p hp => ?_⟩
  rw [cutV_to]
  obtain ⟨B', e, S', hD⟩ := (S.newL (o := .lst (xs.take j)) hp).toData (ha.take j)
  exact k _ _ _ e S' hD
theorem v_slFrom {ds : List PyData} {j : Nat} (S : Ok F B L H) (h : Dp K B x (.list ds)) (k : ∀ r B' H', Ex B B' → Ok F B' L H' → Dp K B' r (.list (ds.drop j)) → Q r H') : SlU P w K x (some (j : Int)) none H Q := by
  obtain ⟨a, xs, rfl, hq, ha⟩ := Dp.lst_inv h
  refine .ofK (r := rSlL) (fun _ _ => sl_list) ⟨a, xs, rfl, S.sqB hq, fun p hp => ?_⟩
  rw [cutV_from]
  obtain ⟨B', e, S', hD⟩ := (S.newL (o := .lst (xs.drop j)) hp).toData (ha.drop j)
  exact k _ _ _ e S' hD
/-- e[::-1] of a list -/
def RevQ (K : PySem.W.Frag) (Q : VK) : VK := fun x H1 => ∃ a xs, x = .ref a ∧ SqL K H1 a xs ∧ ∀ p, H1 p = none → Q (.ref p) (upd H1 p (.lst xs.reverse))
theorem r_revL {te : TE} {σ : L2.St} (k : te σ H (RevQ K Q)) : tRevL K te σ H Q := k
theorem revD {ds : List PyData} (S : Ok F B L H) (h : Dp K B x (.list ds)) (k : ∀ r B' H', Ex B B' → Ok F B' L H' → Dp K B' r (.list ds.reverse) → Q r H') : RevQ K Q x H := by
  obtain ⟨a, xs, rfl, hq, ha⟩ := Dp.lst_inv h
  refine ⟨a, xs, rfl, S.sqB hq, fun p hp => ?_⟩
  obtain ⟨B', e, S', hD⟩ := (S.newL (o := .lst xs.reverse) hp).toData ha.rev
  exact k _ _ _ e S' hD
/-! dicts -/
theorem merge_new {acc kvs : List (Key × V)} (nd : ((acc ++ kvs).map (·.1)).Nodup) : mergeK acc kvs = acc ++ kvs := by
  induction kvs generalizing acc with
  | nil => rw [List.append_nil]; rfl
  | cons p kvs ih =>
    have e : acc ++ p :: kvs = (acc ++ [p]) ++ kvs := by rw [List.append_assoc]; rfl
    have h1 : valV acc p.1 = none := valV_none fun z => by
      rw [List.map_append] at nd
      have := (List.nodup_append.mp nd).2.2 _ z p.1 (by simp)
      exact this rfl
    show mergeK (putK acc p.1 p.2) kvs = _
    rw [putK_new _ h1, e]
    exact ih (by rw [← e]; exact nd)
/-- dict(a list of pairs), the keys all new -/
theorem v_dictP {a : Addr} {ps : List Addr} {kvs : List (Key × V)} (S : Ok F B L H) (h : SqL K H a (ps.map V.ref)) (hp : Paired (fun p (kv : Key × V) => SqT K H p [kV kv.1, kv.2]) ps kvs) (nd : (kvs.map (·.1)).Nodup)
    (k : ∀ D H', Ok F B ((D, .dK kvs) :: L) H' → Q (.ref D) H') : CallU P w K (.type "dict") [.ref a] H Q := by
  refine .ofK (r := fun K xs H Q => ∃ (a : Addr) (ps : List Addr) (kvs : List (Key × V)), xs = [.ref a] ∧ SqL K H a (ps.map V.ref) ∧ Paired (fun p kv => SqT K H p [kV kv.1, kv.2]) ps kvs ∧ ∀ p, H p = none → Q (.ref p) (upd H p (.dK (mergeK [] kvs))))
    (fun _ al => call_dictP al.calm) ⟨a, ps, kvs, rfl, h, hp, fun D hD => ?_⟩
  rw [merge_new (acc := []) nd]
  exact k D _ (S.newL hD)
theorem pairs_ex {xs : List V} {m : List (Str × Int)} (h : DpAll K B xs (m.map fun p => .tuple [.str p.1, .int p.2])) (e : Ex B H) : ∃ ps : List Addr, xs = ps.map V.ref ∧ Paired (fun p (kv : Key × V) => SqT K H p [kV kv.1, kv.2]) ps (m.map fun p => ((.inr p.1 : Key), V.int p.2)) := by
  induction m generalizing xs with
  | nil => exact ⟨[], h.nil_inv, .nil⟩
  | cons p m ih =>
    obtain ⟨v, r, rfl, hv, hr⟩ := DpAll.cons_inv h
    obtain ⟨ps, rfl, hp⟩ := ih hr
    obtain ⟨b, ys, rfl, hq, hy⟩ := Dp.tup_inv hv
    obtain ⟨v1, _, rfl, h1, hy⟩ := hy.cons_inv
    obtain ⟨v2, _, rfl, h2, hy⟩ := hy.cons_inv
    obtain rfl := hy.nil_inv
    obtain rfl := h1.str_inv
    obtain rfl := h2.int_inv
    exact ⟨b :: ps, rfl, .cons (e.sqT hq) hp⟩
theorem inr_nodup {names : List Str} (h : names.Nodup) : (names.map (Sum.inr : Str → Key)).Nodup := by
  induction names with
  | nil => exact List.nodup_nil
  | cons s r ih =>
    obtain ⟨h1, h2⟩ := List.nodup_cons.mp h
    refine List.nodup_cons.mpr ⟨fun z => ?_, ih h2⟩
    obtain ⟨x, hx, e⟩ := List.mem_map.mp z
    exact h1 (Sum.inr.inj e ▸ hx)
theorem v_dictI {m : List (Str × Int)} (S : Ok F B L H) (h : Dp K B x (.list (m.map fun p => .tuple [.str p.1, .int p.2]))) (nd : (m.map (·.1)).Nodup)
    (k : ∀ D H', Ok F B ((D, .dK (m.map fun p => ((.inr p.1 : Key), V.int p.2))) :: L) H' → Q (.ref D) H') : CallU P w K (.type "dict") [x] H Q := by
  obtain ⟨a, xs, rfl, hq, ha⟩ := Dp.lst_inv h
  obtain ⟨ps, rfl, hp⟩ := pairs_ex ha S.ex
  refine v_dictP S (S.sqB hq) hp ?_ k
  rw [List.map_map]
  have : (m.map ((fun kv : Key × V => kv.1) ∘ fun p : Str × Int => ((.inr p.1 : Key), V.int p.2))) = (m.map (·.1)).map Sum.inr := by rw [List.map_map]; rfl
  rw [this]
  exact inr_nodup nd
/-- two dicts alike, in any order -/
theorem op_neR {X : Cx} (hu : X.A.units < cLine) : OpR X (compareOp .NotEq) (fun x y H Q => ∃ a b ks ls, x = .ref a ∧ y = .ref b ∧ Rd H a (.dK ks) ∧ Rd H b (.dK ls) ∧ ks.length = ls.length ∧ (∀ p ∈ ks, valV ls p.1 = some p.2 ∧ flatB p.2 = true) ∧ Q (.bl false) H) := by
  intro pins s σ H x y v u Q I rx ry h
  obtain ⟨a, b, ks, ls, rfl, rfl, ea, eb, hlen, hp, q⟩ := h
  obtain rfl : v = Value.ref a := rx
  obtain rfl : u = Value.ref b := ry
  obtain ⟨_, ya, va, ra, da⟩ := dk_rd I.hok ea
  obtain ⟨_, yb, vb, rb, db⟩ := dk_rd I.hok eb
  have hl : va.length = vb.length := by rw [← ra.length, ← rb.length]; exact hlen
  exact PySem.W.keq_ne (knd := mixKind X.prog X.w) (r := true) ya yb da db hu (fun _ => hits_all rb ra hp) (fin_bl I q (by simp [hl]))
theorem v_neDict {a b : Addr} {ks ls : List (Key × V)} (h1 : Rd H a (.dK ks)) (h2 : Rd H b (.dK ls)) (hl : ks.length = ls.length) (hp : ∀ p ∈ ks, valV ls p.1 = some p.2 ∧ flatB p.2 = true) (k : Q (.bl false) H) : OpU P w K (compareOp .NotEq) (.ref a) (.ref b) H Q :=
  .of (fun _ al => op_neR (by have := al.hu64; omega)) ⟨a, b, ks, ls, rfl, rfl, h1, h2, hl, hp, k⟩
/-- what a value leads to may be locked behind it -/
def FrzQ (Q : VK) : VK := fun v H' => Q v H' ∨ ∃ d u, H' d = some u ∧ Mut (some u) ∧ ∀ od, Q v (upd H' d (.frz od u))
def tFrzA (t : TE) : TE := fun σ H Q => t σ H (FrzQ Q)
theorem pe_frzA {X : Cx} {e : Expr} {t : TE} (h : PE X e t) : PE X e (tFrzA t) := by
  refine ⟨fun pins s σ H Q I hw => ?_⟩
  refine thn (h.run pins s σ H _ I hw) fun v s' ⟨x, H', I', r, q⟩ => ?_
  rcases q with q | ⟨d, u, hd, mu, q⟩
  · exact ⟨x, H', I', r, q⟩
  · obtain ⟨od, I1⟩ := I'.lock hd mu
    exact ⟨x, _, I1, r, q od⟩
theorem r_frzA {t : TE} {σ : L2.St} (k : t σ H (FrzQ Q)) : tFrzA t σ H Q := k
theorem frzQ {v : V} {d : Addr} {u : HO} (h : H d = some u) (mu : Mut (some u)) (k : ∀ od, Q v (upd H d (.frz od u))) : FrzQ Q v H := .inr ⟨d, u, h, mu, k⟩
end
end WK
namespace WK
open PySem PySem.Spec PyProof.Rows L2
/-! cuts -/
def tCut (t : TE) : TE := fun σ H Q => ∃ R : VK, t σ H R ∧ ∀ v H', R v H' → Q v H'
theorem pe_cut {X : Cx} {e : Expr} {t : TE} (h : PE X e t) : PE X e (tCut t) := by
  refine ⟨fun pins s σ H Q I hw => ?_⟩
  obtain ⟨R, h1, h2⟩ := hw
  exact thn (h.run pins s σ H R I h1) fun v s' ⟨x, H', I', r, q⟩ => ⟨x, H', I', r, h2 _ _ q⟩
theorem cutE {t : TE} {σ : L2.St} {H : Hp} {Q : VK} (R : VK) (h : t σ H R) (k : ∀ v H', R v H' → Q v H') : tCut t σ H Q := ⟨R, h, k⟩
def tCutS (t : TS) : TS := fun D σ H => ∃ N : L2.St → Hp → Prop, t { D with nx := N } σ H ∧ ∀ σ' H', N σ' H' → D.nx σ' H'
theorem ps_cut {X : Cx} {st : Stmt} {t : TS} (h : PS X st t) : PS X st (tCutS t) := by
  refine ⟨fun pins s σ H D I hw => ?_⟩
  obtain ⟨N, h1, h2⟩ := hw
  refine thn (h.run pins s σ H _ I h1) fun fl s' q => ?_
  cases fl with
  | next =>
    obtain ⟨σ', H', I', q⟩ := q
    exact ⟨σ', H', I', h2 _ _ q⟩
  | ret v => exact q
  | brk => exact q
  | cont => exact q
theorem cutS {t : TS} {σ : L2.St} {H : Hp} {D : Ends} (N : L2.St → Hp → Prop) (h : t { D with nx := N } σ H) (k : ∀ σ' H', N σ' H' → D.nx σ' H') : tCutS t D σ H := ⟨N, h, k⟩
end WK
namespace WK
open PySem PySem.Spec PyProof.Rows L2
/-- a comprehension over a list of data, any invariant -/
theorem lcDL {α : Type} {F : Ent} {B H1 : Hp} {L : Led} {σ : L2.St} {K : PySem.W.Frag} {P : Program} {w : World} {tg : Expr} {as : List α} {enc : α → PyData} {v : V} {g : TG} {tt : TT} {te : TE} {vs : List Nat} {Q : VK} (S : Ok F B L H1) (h : Dp K B v (.list (as.map enc))) (I : Nat → List V → Hp → Led → Prop) (h0 : I 0 [] B L)
    (hs : ∀ i a x acc B0 B1 L D H, as[i]? = some a → I i acc B0 L → Ex B B0 → Ex B0 B1 → Ok F B1 ((D, .lst acc) :: L) H → Dp K B1 x (enc a) → g x (wipe σ vs) H fun σ2 H2 => wipe σ2 vs = wipe σ vs ∧ tt σ2 H2 fun b H3 =>
      if b = true then te σ2 H3 (Acc F (fun acc B1 L1 => Ex B B1 ∧ I (i + 1) acc B1 L1) D) else Skp F (fun acc B1 L1 => Ex B B1 ∧ I (i + 1) acc B1 L1) D H3)
    (hd : ∀ acc B1 L D H, I as.length acc B1 L → Ex B B1 → Ok F B1 ((D, .lst acc) :: L) H → Q (.ref D) H) : ItU P w K tg v H1 (LcW g tt te vs σ Q) := by
  obtain ⟨a, xs, rfl, hq, ha⟩ := Dp.lst_inv h
  refine ItU.list (S.sqB hq) (lcD (src_lst (xs := xs) (as := as) (enc := enc)) S (fun i acc B1 L1 => Ex B B1 ∧ I i acc B1 L1) ⟨Ex.refl _, h0⟩ ?_ ?_ ?_)
  · rintro i acc B1 L1 D _ ⟨e, _⟩
    exact ⟨.inl (e.sqL hq), ha.up e⟩
  · rintro i a x acc B0 B1 L1 D H hget ⟨e, q⟩ e1 S1 hx
    exact hs i a x acc B0 B1 L1 D H hget q e e1 S1 hx
  · rintro acc B1 L1 D H ⟨e, q⟩ S1
    exact hd acc B1 L1 D H q e S1
end WK

namespace WK
open PySem PySem.Spec PyProof.Rows L2 PySem.W PySem.Calls
/-! a, *r = a list -/
section
variable {X : Cx} {pos : Pos}
def gStar (K : PySem.W.Frag) (n i : Nat) (t : TGs) : TG := fun v σ H Q => ∃ a xs, v = .ref a ∧ SqL K H a xs ∧ n ≤ xs.length + 1 ∧ xs.length ≤ 16384 ∧
  ∀ p, H p = none → t (xs.take i ++ [.ref p] ++ (xs.drop i).drop (xs.length + 1 - n)) σ (upd H p (.lst ((xs.drop i).take (xs.length + 1 - n)))) Q
theorem vals_take {xs : List V} {us : List Value} (r : Vals xs us) : ∀ j, Vals (xs.take j) (us.take j) := by
  induction r with
  | nil => intro j; simp only [List.take_nil]; exact .nil
  | cons h t ih =>
    intro j
    cases j with
    | zero => exact .nil
    | succ j => exact .cons h (ih j)
theorem vals_drop {xs : List V} {us : List Value} (r : Vals xs us) : ∀ j, Vals (xs.drop j) (us.drop j) := by
  induction r with
  | nil => intro j; simp only [List.drop_nil]; exact .nil
  | cons h t ih =>
    intro j
    cases j with
    | zero => exact .cons h t
    | succ j => exact ih j
theorem star_items {pins : List (Addr × Obj)} {s : Shared} {σ : L2.St} {H : Hp} {a : Addr} {xs : List V} {n i : Nat} {Q : List Value → Shared → Prop} (hc : X.calm = true) (I : Inv X pins σ H s) (hq : SqL X.K H a xs) (hi : i < n) (hn : n ≤ xs.length + 1) (hz : xs.length ≤ 16384)
    (h : ∀ p us s', H p = none → Inv X pins σ (upd H p (.lst ((xs.drop i).take (xs.length + 1 - n)))) s' → Vals (xs.take i ++ [.ref p] ++ (xs.drop i).drop (xs.length + 1 - n)) us → Q us s') :
    wpAny (model X.prog X.w) X.A (unpackItems (.ref a) n (some i)) Q X.xe s := by
  obtain ⟨its, rv, pl, _⟩ := I.list hq
  have hl := pl.isList
  have hlen : xs.length = its.length := rv.length
  have hh := I.ok.hd hc
  generalize hit : its.toArray = items at hl
  have hsz : items.size = xs.length := by rw [← hit, List.size_toArray, hlen]
  have hlist : items.toList = its := by rw [← hit]
  have hlt : a ≠ s.heap.objs.size := by obtain ⟨o, ho, _⟩ := hl; exact Nat.ne_of_lt (Heap.lt_size ho)
  unfold unpackItems
  refine wpAny_bind ?_
  unfold notIterableAtAll
  refine wpAny_bind (wpAny_specialOf hl.typeIs slot_list_iter.lookup ?_)
  refine wpAny_pure ?_
  simp only [Bool.false_eq_true, if_false]
  refine wpAny_bind (wpAny_holding (wpAny_pyIter_list hl ?_))
  refine wpAny_bind (wpAny_holding (kun_draw hlt i 0 _ _ ⟨_, Heap.get?_push_size _ rfl, rfl, rfl⟩ (hl.push _) (by omega) fun h₁ hit₁ hs₁ => ?_))
  have hl₁ : h₁.IsList a items := (hl.push _).extBut hs₁.extBut hlt
  rw [Nat.zero_add] at hit₁
  have hit₁' := hit₁
  obtain ⟨oi, hoi, _⟩ := hit₁'
  have hl₁' := hl₁
  obtain ⟨ol, hol, _⟩ := hl₁'
  rw [List.drop_zero]
  have hfl : (items.toList.take i).length = i := by rw [List.length_take, Array.length_toList]; omega
  rw [if_neg (show ¬ ((items.toList.take i).length < i) by rw [hfl]; omega)]
  refine wpAny_bind (wpAny_holding (kun_collect (s := { s with heap := h₁ }) (T := "list_iterator") (.inr (.inr (.inl rfl))) (Walks.list (A := X.A.in1) hh s.heap.objs.size a hlt items) (fun j u st => st.1.typeIs) (k := i) (by omega) ⟨hit₁, hl₁⟩ (Heap.lt_size hoi) (Heap.lt_size hol) (fun h₂ tk hk => ?_) (by rw [sizeLine_eq]; omega)))
  have hrl : (items.toList.drop i).length = items.size - i := by rw [List.length_drop, Array.length_toList]
  have hmid : (items.toList.drop i).length - (n - 1 - i) = items.size + 1 - n := by rw [hrl]; omega
  show wpAny _ _ (if (items.toList.drop i).length < n - 1 - i then _ else _) _ _ _
  rw [if_neg (by rw [hrl]; omega)]
  show wpAny _ _ (newList ((items.toList.drop i).take ((items.toList.drop i).length - (n - 1 - i))) >>= fun d => pure (items.toList.take i ++ [d] ++ (items.toList.drop i).drop ((items.toList.drop i).length - (n - 1 - i)))) _ _ _
  rw [hmid, hlist, hsz]
  have he : ∀ b o, s.heap.get? b = some o → h₂.get? b = some o := fun b o e => by
    have hb : b ≠ s.heap.objs.size := Nat.ne_of_lt (Heap.lt_size e)
    exact hk b o hb (hs₁.extBut b o hb (Heap.get?_push_of_some _ e))
  have I2 : Inv X pins σ H { s with heap := h₂, toks := tk } := I.kept he
  have hlm : ((its.drop i).take (xs.length + 1 - n)).length ≤ sizeLine := by rw [List.length_take, List.length_drop, sizeLine_eq]; omega
  refine wpAny_bind (wpAny_newList ?_ hlm)
  refine wpAny_pure ?_
  have I3 := I2.laid (t' := tk) (a := h₂.objs.size) (o := .lst ((xs.drop i).take (xs.length + 1 - n))) (h' := h₂.push { cls := .type "list", data := .seq ((its.drop i).take (xs.length + 1 - n)).toArray })
    (fun b u e => Heap.get?_push_of_some _ e) (Nat.le_refl _) ⟨by rw [List.length_take, List.length_drop, sizeLine_eq]; omega, _, 0, vals_take (vals_drop rv i) _, Heap.get?_push_size _ rfl⟩
  refine h h₂.objs.size _ _ (I2.hok.fresh (Nat.le_refl _)) I3 ?_
  have one : Vals [V.ref h₂.objs.size] [Value.ref h₂.objs.size] := .cons (show RelV (.ref h₂.objs.size) (.ref h₂.objs.size) from rfl) .nil
  exact ((vals_take rv i).append one).append (vals_drop (vals_drop rv i) _)
theorem pg_star (K : PySem.W.Frag) {es : List Expr} {k : Nat} {t : TGs} {n i : Nat} (h : PGs X es t) (hi : i < n) (hK : X.K = K := by rfl) (hc : X.calm = true := by rfl)
    (hn : (assignEach es X.env).length = n := by rfl) (hst : (assignEach es X.env).findIdx? (·.1) = some i := by rfl) : PG X (.Tuple es k pos) (gStar K n i t) := by
  subst hK
  refine ⟨fun pins s σ H v u Q I r hw => ?_⟩
  obtain ⟨a, xs, e1, hq, hl, hz, hw⟩ := hw
  subst e1
  cases r
  rw [PyProof.Rows.assign_Tuple]
  refine wpAny_bind (wpAny_standAt ?_)
  unfold unpack
  rw [hn, hst]
  refine wpAny_bind (wpAny_holding (star_items hc I hq hi hl hz fun p us s' hp I' r' => ?_))
  exact h.run pins s' σ _ _ us Q I' r' (hw p hp)
theorem pgs_star {e : Expr} {es : List Expr} {t : TG} {u : TGs} {p : Pos} (h1 : PG X e t) (h2 : PGs X es u)
    (hs : (assignEach (.Starred e p :: es) X.env).map (·.2) = assign e X.env :: (assignEach es X.env).map (·.2) := by rfl) : PGs X (.Starred e p :: es) (gCons t u) := by
  refine ⟨fun pins s σ H vs us Q I r h => ?_⟩
  obtain ⟨v, vr, e1, h⟩ := h
  subst e1
  cases r with
  | cons r rr =>
    rw [hs]
    refine assignInOrder_cons (thn (h1.run pins s σ H _ _ _ I r h) fun _ s1 ⟨σ1, H1, I1, q1⟩ => ?_)
    exact h2.run pins s1 σ1 H1 _ _ Q I1 rr q1
end
end WK
namespace WK
open PySem PySem.Spec PyProof.Rows L2
theorem pg_lstU (K : PySem.W.Frag) {X : Cx} {es : List Expr} {k : Nat} {t : TGs} {n : Nat} {pos : Pos} (h : PGs X es t) (hK : X.K = K := by rfl) (hc : X.calm = true := by rfl) (hn : (assignEach es X.env).length = n := by rfl) (hst : (assignEach es X.env).findIdx? (·.1) = none := by rfl) :
    PG X (.Tuple es k pos) (gLst K n t) := by
  subst hK
  exact pg_lst hc h hn hst
end WK
namespace WK
open PySem PySem.Spec PyProof.Rows L2
/-! texts -/
def numS (i : Int) : Str := (toString i : String)
section
variable {P : Program} {w : World} {K : PySem.W.Frag} {H B : Hp} {Q : VK} {F : Ent} {L : Led} {x : V}
theorem v_strI {i : Int} (h : i.natAbs.log2 < 1920) (k : Q (.str (numS i)) H) : CallU P w K (.type "str") [.int i] H Q := .of (fun _ _ => call_str_int) ⟨i, rfl, h, k⟩
theorem v_joinL {a : Addr} {z : Str} {ys : List Str} (h : SqL K H a (ys.map V.str)) (hz : (ys.map (·.length)).sum + ys.length * z.length ≤ 16777216) (k : Q (.str (Txt.join z ys)) H) : MetU P w K "str.join" (.str z) [.ref a] H Q :=
  .ofK (r := fun K x xs H Q => ∃ a p, ∃ ys : List Str, x = .str a ∧ xs = [.ref p] ∧ (SqL K H p (ys.map V.str) ∨ SqT K H p (ys.map V.str)) ∧ (ys.map (·.length)).sum + ys.length * a.length ≤ 16777216 ∧ Q (.str (Txt.join a ys)) H) (fun _ _ => mt_join) ⟨z, a, ys, rfl, rfl, .inl h, hz, k⟩
theorem v_splitS {z y : Str} (S : Ok F B L H) (hy : (y.length == 0) = false) (hz : z.length + 2 ≤ sizeLine) (k : ∀ p H', Ok F B ((p, .lst ((Txt.split z y).map V.str)) :: L) H' → Q (.ref p) H') : MetU P w K "str.split" (.str z) [.str y] H Q :=
  .of (fun _ _ => mt_split) ⟨z, y, rfl, rfl, hy, hz, fun p hp => k p _ (S.newL hp)⟩
theorem v_startsS {z y : Str} (k : Q (.bl (Txt.startswith z y)) H) : MetU P w K "str.startswith" (.str z) [.str y] H Q := .of (fun _ _ => mt_startswith) ⟨z, y, rfl, rfl, k⟩
theorem v_stripS {z y : Str} (hz : z.length ≤ sizeLine) (k : Q (.str (Txt.stripChars z y)) H) : MetU P w K "str.strip" (.str z) [.str y] H Q := .of (fun _ _ => mt_stripChars) ⟨z, y, rfl, rfl, hz, k⟩
theorem v_intS {z : Str} {n : Int} (h : PySem.intText? z = some n) (hz : z.length ≤ 640) (k : Q (.int n) H) : CallU P w K (.type "int") [.str z] H Q := .of (fun _ _ => call_int_str) ⟨z, n, rfl, h, hz, k⟩
end
end WK
namespace WK
open PySem PySem.Spec PyProof.Rows L2
theorem v_extendN {P : Program} {w : World} {K : PySem.W.Frag} {F : Ent} {B H : Hp} {L : Led} {Q : VK} {p b : Addr} {xs zs : List V} (n : Nat) (S : Ok F B L H) (h : L[n]? = some (p, .lst xs)) (hb : H b = some (.lst zs)) (hz : xs.length + zs.length ≤ sizeLine)
    (k : ∀ H', Ok F B (L.set n (p, .lst (xs ++ zs))) H' → Q .non H') : MetU P w K "list.extend" (.ref p) [.ref b] H Q :=
  .of (fun _ _ => mt_extend) ⟨p, b, xs, zs, rfl, rfl, (S.own _ (List.mem_of_getElem? h)).1, hb, hz, k _ (S.mutN n h)⟩
end WK
namespace WK
open PySem PySem.Spec PyProof.Rows L2
theorem r_gstar {K : PySem.W.Frag} {F : Ent} {B H : Hp} {L : Led} {σ : L2.St} {QG : L2.St → Hp → Prop} {a : Addr} {xs : List V} {n i : Nat} {t : TGs} (S : Ok F B L H) (h : SqL K H a xs) (hn : n ≤ xs.length + 1) (hz : xs.length ≤ 16384)
    (k : ∀ p H', Ok F B ((p, .lst ((xs.drop i).take (xs.length + 1 - n))) :: L) H' → t (xs.take i ++ [.ref p] ++ (xs.drop i).drop (xs.length + 1 - n)) σ H' QG) : gStar K n i t (.ref a) σ H QG := ⟨a, xs, rfl, h, hn, hz, fun p hp => k p _ (S.newL hp)⟩
end WK

namespace WK
open PySem PySem.Spec PyProof.Rows L2
theorem r_rU {g : Int → V} {i : Int} {H : Hp} {Q : VK} (k : Q (g i) H) : rU g (.int i) H Q := ⟨i, rfl, k⟩
/-! lists compared by their lengths -/
section
variable {X : Cx}
theorem op_eqLen (hu : X.A.units + 64 < cLine) : OpR X (compareOp .Eq) (fun x y H Q => ∃ a b xs ys, x = .ref a ∧ y = .ref b ∧ SqL X.K H a xs ∧ SqL X.K H b ys ∧ (xs.length ≠ ys.length ∨ (xs = [] ∧ ys = [])) ∧ Q (.bl (decide (xs.length = ys.length))) H) := by
  intro pins s σ H x y v u Q I rx ry h
  obtain ⟨a, b, xs, ys, rfl, rfl, h1, h2, h3, q⟩ := h
  cases rx
  cases ry
  obtain ⟨is, r1, p1, _⟩ := I.list h1
  obtain ⟨js, r2, p2, _⟩ := I.list h2
  have l1 := r1.length
  have l2 := r2.length
  rcases h3 with h3 | ⟨rfl, rfl⟩
  · refine SeqAt.eq_list_lengthsAt p1.isList p2.isList (by simp only [List.size_toArray, bne_iff_ne, ne_eq]; omega) (by omega) ⟨.bl _, H, I, rfl, ?_⟩
    rw [decide_eq_false h3] at q
    exact q
  · have e1 : is = [] := List.eq_nil_of_length_eq_zero (by rw [← l1]; rfl)
    have e2 : js = [] := List.eq_nil_of_length_eq_zero (by rw [← l2]; rfl)
    subst e1
    subst e2
    refine SeqAt.eq_listAt (e := fun _ => true) p1.isList p2.isList rfl (by omega) (fun j j1 j2 => absurd j1 (Nat.not_lt_zero _)) ⟨.bl _, H, I, rfl, q⟩
theorem op_neLen (hu : X.A.units + 64 < cLine) : OpR X (compareOp .NotEq) (fun x y H Q => ∃ a b xs ys, x = .ref a ∧ y = .ref b ∧ SqL X.K H a xs ∧ SqL X.K H b ys ∧ (xs.length ≠ ys.length ∨ (xs = [] ∧ ys = [])) ∧ Q (.bl (!decide (xs.length = ys.length))) H) := by
  intro pins s σ H x y v u Q I rx ry h
  obtain ⟨a, b, xs, ys, rfl, rfl, h1, h2, h3, q⟩ := h
  cases rx
  cases ry
  obtain ⟨is, r1, p1, _⟩ := I.list h1
  obtain ⟨js, r2, p2, _⟩ := I.list h2
  have l1 := r1.length
  have l2 := r2.length
  rcases h3 with h3 | ⟨rfl, rfl⟩
  · refine (SeqAt.RcNeAt.lists_lengths p1.isList p2.isList (by simp only [List.size_toArray, bne_iff_ne, ne_eq]; omega) (by omega)) X.prog X.w X.xe _ ⟨.bl _, H, I, rfl, ?_⟩
    rw [decide_eq_false h3] at q
    exact q
  · have e1 : is = [] := List.eq_nil_of_length_eq_zero (by rw [← l1]; rfl)
    have e2 : js = [] := List.eq_nil_of_length_eq_zero (by rw [← l2]; rfl)
    subst e1
    subst e2
    refine (SeqAt.RcNeAt.lists (e := fun _ => true) p1.isList p2.isList rfl (by omega) (fun j j1 j2 => absurd j1 (Nat.not_lt_zero _))) X.prog X.w X.xe _ ⟨.bl _, H, I, rfl, q⟩
end
section
variable {P : Program} {w : World} {K : PySem.W.Frag} {H : Hp} {Q : VK} {a b : Addr} {xs ys : List V}
theorem v_eqLen (h1 : SqL K H a xs) (h2 : SqL K H b ys) (h3 : xs.length ≠ ys.length ∨ (xs = [] ∧ ys = [])) (k : Q (.bl (decide (xs.length = ys.length))) H) : OpU P w K (compareOp .Eq) (.ref a) (.ref b) H Q :=
  .ofK (r := fun K x y H Q => ∃ a b xs ys, x = .ref a ∧ y = .ref b ∧ SqL K H a xs ∧ SqL K H b ys ∧ (xs.length ≠ ys.length ∨ (xs = [] ∧ ys = [])) ∧ Q (.bl (decide (xs.length = ys.length))) H) (fun _ al => op_eqLen al.hu64) ⟨a, b, xs, ys, rfl, rfl, h1, h2, h3, k⟩
theorem v_neLen (h1 : SqL K H a xs) (h2 : SqL K H b ys) (h3 : xs.length ≠ ys.length ∨ (xs = [] ∧ ys = [])) (k : Q (.bl (!decide (xs.length = ys.length))) H) : OpU P w K (compareOp .NotEq) (.ref a) (.ref b) H Q :=
  .ofK (r := fun K x y H Q => ∃ a b xs ys, x = .ref a ∧ y = .ref b ∧ SqL K H a xs ∧ SqL K H b ys ∧ (xs.length ≠ ys.length ∨ (xs = [] ∧ ys = [])) ∧ Q (.bl (!decide (xs.length = ys.length))) H) (fun _ al => op_neLen al.hu64) ⟨a, b, xs, ys, rfl, rfl, h1, h2, h3, k⟩
end
end WK
namespace WK
open PySem PySem.Spec PyProof.Rows L2
section
variable {F : Ent} {B H : Hp} {L : Led}
theorem nodup_pick {α : Type} {l : List α} (h : l.Nodup) : ∀ (is : List Nat), is.Nodup → (is.filterMap (l[·]?)).Nodup
  | [], _ => List.nodup_nil
  | i :: is, hn => by
    obtain ⟨h1, h2⟩ := List.nodup_cons.mp hn
    have ih := nodup_pick h is h2
    cases e : l[i]? with
    | none => rw [List.filterMap_cons_none e]; exact ih
    | some x =>
      rw [List.filterMap_cons_some e]
      refine List.nodup_cons.mpr ⟨fun hx => ?_, ih⟩
      obtain ⟨j, hj, ej⟩ := List.mem_filterMap.mp hx
      have := (List.getElem?_inj (List.getElem?_eq_some_iff.mp e).1 h).mp (e.trans ej.symm)
      exact h1 (this ▸ hj)
/-- some of the ledger, in another turn -/
theorem Ok.pick (S : Ok F B L H) (is : List Nat) (nd : is.Nodup) : Ok F B (is.filterMap (L[·]?)) H := by
  have hm : ∀ q ∈ is.filterMap (L[·]?), q ∈ L := fun q hq => by
    obtain ⟨j, _, ej⟩ := List.mem_filterMap.mp hq
    exact List.mem_of_getElem? ej
  refine ⟨S.ex, ?_, fun q hq => S.own q (hm q hq), S.ex0, S.keep, S.kA, S.fB, fun q hq => S.fL q (hm q hq)⟩
  have := nodup_pick S.nd is nd
  rw [List.map_filterMap]
  simpa only [List.getElem?_map] using this
theorem r_glstD {K : PySem.W.Frag} {σ : L2.St} {QG : L2.St → Hp → Prop} {t : TGs} {v : V} {ds : List PyData} {n : Nat} (S : Ok F B L H) (h : Dp K B v (.list ds)) (hn : ds.length = n) (k : ∀ vs, DpAll K B vs ds → t vs σ H QG) : gLst K n t v σ H QG := by
  obtain ⟨a, xs, rfl, hq, ha⟩ := Dp.lst_inv h
  exact ⟨a, xs, rfl, S.sqB hq, by rw [ha.length, hn], k xs ha⟩
end
/-- one of two promises -/
def spOr (a b : Sp) : Sp := fun vs H Q E => a vs H Q E ∨ b vs H Q E
theorem okOr {P : Program} {w : World} {K : PySem.W.Frag} {mg : Str → Option Value} {base : Heap} {CX : CXT} {k : Nat} {f : Addr} {fd : FuncData} {ps : List Str} {a b : Sp} (F : FnOk P w K mg base CX k f fd ps a) (G : FnOk P w K mg base CX k f fd ps b) : FnOk P w K mg base CX k f fd ps (spOr a b) :=
  ⟨fun vs H Q E h => h.elim (F.len vs H Q E) (G.len vs H Q E), fun A outer s H args us vs Q E hr he hb hv h => h.elim (F.run A outer s H args us vs Q E hr he hb hv) (G.run A outer s H args us vs Q E hr he hb hv)⟩
end WK
namespace WK
open PySem PySem.Spec PyProof.Rows L2
section
variable {X : Cx}
theorem op_eqTNil (hu : X.A.units + 64 < cLine) : OpR X (compareOp .Eq) (fun x y H Q => ∃ a b xs, x = .ref a ∧ y = .ref b ∧ SqT X.K H a xs ∧ SqT X.K H b [] ∧ Q (.bl xs.isEmpty) H) := by
  intro pins s σ H x y v u Q I rx ry h
  obtain ⟨a, b, xs, rfl, rfl, h1, h2, q⟩ := h
  cases rx
  cases ry
  obtain ⟨is, r1, p1, _⟩ := I.tuple h1
  obtain ⟨js, r2, p2, _⟩ := I.tuple h2
  have l1 := r1.length
  have e2 : js = [] := List.eq_nil_of_length_eq_zero (by rw [← r2.length]; rfl)
  subst e2
  refine SeqAt.eq_tupleAt (e := fun _ => true) (show s.heap.IsTuple a is.toArray from p1) (show s.heap.IsTuple b #[] from p2) (by omega) (fun j j1 j2 => absurd j2 (Nat.not_lt_zero _)) ⟨.bl _, H, I, rfl, ?_⟩
  have e : ((List.range (min is.toArray.size (#[] : Array Value).size)).all (fun _ => true) && is.toArray.size == (#[] : Array Value).size) = xs.isEmpty := by
    cases xs with
    | nil =>
      have : is = [] := List.eq_nil_of_length_eq_zero (by rw [← l1]; rfl)
      subst this
      rfl
    | cons x xs =>
      cases is with
      | nil => simp at l1
      | cons i is => simp
  rw [e]
  exact q
theorem op_neTNil (hu : X.A.units + 64 < cLine) : OpR X (compareOp .NotEq) (fun x y H Q => ∃ a b xs, x = .ref a ∧ y = .ref b ∧ SqT X.K H a xs ∧ SqT X.K H b [] ∧ Q (.bl (!xs.isEmpty)) H) := by
  intro pins s σ H x y v u Q I rx ry h
  obtain ⟨a, b, xs, rfl, rfl, h1, h2, q⟩ := h
  cases rx
  cases ry
  obtain ⟨is, r1, p1, _⟩ := I.tuple h1
  obtain ⟨js, r2, p2, _⟩ := I.tuple h2
  have l1 := r1.length
  have e2 : js = [] := List.eq_nil_of_length_eq_zero (by rw [← r2.length]; rfl)
  subst e2
  have e : ((List.range (min is.toArray.size (#[] : Array Value).size)).all (fun _ => true) && is.toArray.size == (#[] : Array Value).size) = xs.isEmpty := by
    cases xs with
    | nil =>
      have : is = [] := List.eq_nil_of_length_eq_zero (by rw [← l1]; rfl)
      subst this
      rfl
    | cons x xs =>
      cases is with
      | nil => simp at l1
      | cons i is => simp
  refine (SeqAt.RcNeAt.tuples (e := fun _ => true) (show s.heap.IsTuple a is.toArray from p1) (show s.heap.IsTuple b #[] from p2) (by omega) (fun j j1 j2 => absurd j2 (Nat.not_lt_zero _))) X.prog X.w X.xe _ ⟨.bl _, H, I, rfl, ?_⟩
  rw [e]
  exact q
end
section
variable {P : Program} {w : World} {K : PySem.W.Frag} {F : Ent} {B H : Hp} {L : Led} {Q : VK} {a b p : Addr} {xs : List V}
theorem v_eqTNil (h1 : SqT K H a xs) (h2 : SqT K H b []) (k : Q (.bl xs.isEmpty) H) : OpU P w K (compareOp .Eq) (.ref a) (.ref b) H Q :=
  .ofK (r := fun K x y H Q => ∃ a b xs, x = .ref a ∧ y = .ref b ∧ SqT K H a xs ∧ SqT K H b [] ∧ Q (.bl xs.isEmpty) H) (fun _ al => op_eqTNil al.hu64) ⟨a, b, xs, rfl, rfl, h1, h2, k⟩
theorem v_neTNil (h1 : SqT K H a xs) (h2 : SqT K H b []) (k : Q (.bl (!xs.isEmpty)) H) : OpU P w K (compareOp .NotEq) (.ref a) (.ref b) H Q :=
  .ofK (r := fun K x y H Q => ∃ a b xs, x = .ref a ∧ y = .ref b ∧ SqT K H a xs ∧ SqT K H b [] ∧ Q (.bl (!xs.isEmpty)) H) (fun _ al => op_neTNil al.hu64) ⟨a, b, xs, rfl, rfl, h1, h2, k⟩
/-- data == (): by its count -/
theorem v_eqTNilD {v : V} {ds : List PyData} (S : Ok F B L H) (h1 : Dp K B v (.tuple ds)) (h2 : SqT K H b []) (k : Q (.bl ds.isEmpty) H) : OpU P w K (compareOp .Eq) v (.ref b) H Q := by
  obtain ⟨a, xs, rfl, hq, ha⟩ := Dp.tup_inv h1
  refine v_eqTNil (S.tqB hq) h2 ?_
  have e : xs.isEmpty = ds.isEmpty := by
    cases ha with
    | nil => rfl
    | cons _ _ => rfl
  rw [e]
  exact k
theorem v_neTNilD {v : V} {ds : List PyData} (S : Ok F B L H) (h1 : Dp K B v (.tuple ds)) (h2 : SqT K H b []) (k : Q (.bl (!ds.isEmpty)) H) : OpU P w K (compareOp .NotEq) v (.ref b) H Q := by
  obtain ⟨a, xs, rfl, hq, ha⟩ := Dp.tup_inv h1
  refine v_neTNil (S.tqB hq) h2 ?_
  have e : xs.isEmpty = ds.isEmpty := by
    cases ha with
    | nil => rfl
    | cons _ _ => rfl
  rw [e]
  exact k
theorem v_slStr {z : Str} {lo hi : Option Int} (hz : z.length ≤ sizeLine) (k : Q (.str (L2.cutS z lo hi)) H) : SlU P w K (.str z) lo hi H Q := .of (fun _ _ => sl_str) ⟨z, rfl, hz, k⟩
theorem v_clearN (n : Nat) (S : Ok F B L H) (h : L[n]? = some (p, .lst xs)) (k : ∀ H', Ok F B (L.set n (p, .lst [])) H' → Q .non H') : MetU P w K "list.clear" (.ref p) [] H Q :=
  .of (fun _ _ => mt_clear) ⟨p, xs, rfl, rfl, (S.own _ (List.mem_of_getElem? h)).1, k _ (S.mutN n h)⟩
end
end WK

namespace WK
open PySem PySem.Spec PyProof.Rows L2
/-! enumerate over a list or a tuple -/
theorem isT_of {h : Heap} {a : Addr} {its : List Value} (p : IsTup h a its.toArray) : h.IsTuple a its.toArray := p
set_option maxHeartbeats 1000000 in
theorem enumNew1 {v : Value} {ob : Obj} {C : Heap → Prop} (Bg : Begins v ob C) :
    Meets (Builtin.«enumerate.__new__» ⟨[.type "enumerate", v], []⟩) (fun _ R sh => C sh.heap ∧ R (.ok (.ret (.ref (sh.heap.push ob).objs.size)))
      { sh with heap := (sh.heap.push ob).push { cls := .type "enumerate", data := .fields #[.none, .bool false, .ref sh.heap.objs.size, rawInt 0, .none, .none] } }) :=
  .of_wp fun pg wd Ar R sh hh => by
    obtain ⟨hp, gs, dr, tks, osx⟩ := sh; obtain ⟨hC, hR⟩ := hh
    have hs1 := sub_enumerate
    have itr : ∀ {A' : Around} {E' : Value → Shared → Prop} {Q' : Value → Shared → Prop}, Q' (.ref hp.objs.size) ⟨hp.push ob, gs, dr, tks, osx⟩ → wpAny (model pg wd) A' (pyIter v) Q' E' ⟨hp, gs, dr, tks, osx⟩ := fun q => Bg.iter pg wd _ _ ⟨hp, gs, dr, tks, osx⟩ _ hC q
    wp_walk using itr
    refine wpAny_stack_any fun stk => wpAny_pure ?_
    split
    · rename_i cc _ _ _ _ _
      cases (cc == Value.type "enumerate") <;> (wp_walk using itr; exact ⟨_, rfl, hR⟩)
    · wp_walk using itr
      exact ⟨_, rfl, hR⟩
theorem callEnum1 {P : Program} {w : World} {A : Around} {E : Value → Shared → Prop} {s : Shared} {v : Value} {ob : Obj} {C : Heap → Prop} {Q : Value → Shared → Prop} (Bg : Begins v ob C) (hC : C s.heap)
    (h : ∀ h', IsEnum h' (s.heap.objs.size + 1) s.heap.objs.size 0 .none → h'.get? s.heap.objs.size = some ob → (∀ b o, s.heap.get? b = some o → h'.get? b = some o) → Q (.ref (s.heap.objs.size + 1)) { s with heap := h' }) :
    wpAny (model P w) A (call (.type "enumerate") [v]) Q E s := by
  have hz : (s.heap.push ob).objs.size = s.heap.objs.size + 1 := Heap.size_push ..
  have he : IsEnum ((s.heap.push ob).push { cls := .type "enumerate", data := .fields #[.none, .bool false, .ref s.heap.objs.size, rawInt 0, .none, .none] }) (s.heap.objs.size + 1) s.heap.objs.size 0 .none := by
    have e1 := Heap.get?_push_size (s.heap.push ob) (o := { cls := .type "enumerate", data := .fields #[.none, .bool false, .ref s.heap.objs.size, rawInt 0, .none, .none] }) rfl
    rw [hz] at e1
    exact e1
  refine callType_new F.called_enumerate (by decide) (F.typeCall_enumerate_1 v) (F.newCall_enumerate_1 v) (fun x => F.args_object_init_2 x v) F.entry_enumerate_new (enumNew1 Bg) ⟨hC, ?_⟩
  show _ ∧ _
  rw [hz]
  exact ⟨⟨_, he, rfl⟩, h _ he (Heap.get?_push_of_some _ (Heap.get?_push_size _ Bg.free)) fun b o x => Heap.get?_push_of_some _ (Heap.get?_push_of_some _ x)⟩
/-- the tuple at a, each item in a new pair -/
def Itet (K : PySem.W.Frag) (a : Addr) : It :=
  ⟨fun i H => ∃ (xs : List V) (x : V), SqT K H a xs ∧ xs[i]? = some x, fun i H v H' => ∃ T x, v = .ref T ∧ H T = none ∧ H' = upd H T (.tup [.int (i : Nat), x]) ∧ ∀ xs, SqT K H a xs → xs[i]? = some x, fun i H => ∃ xs : List V, SqT K H a xs ∧ xs.length ≤ i⟩
theorem turn_enumT {P : Program} {w : World} {K : PySem.W.Frag} {elts : List Expr} {kk : Nat} {tpos : Pos} (a e it : Addr) :
    Turn P w K (.Tuple elts kk tpos) (Itet K a) [e, it] e (fun i h => (∃ old, IsEnum h e it ((i : Nat) : Int) old) ∧ h.IsTupleIter it a i ∧ e ≠ it) where
  mem := by simp
  obj := fun i h st b hb => by
    obtain ⟨⟨od, h1⟩, ⟨ob, h2, h3, h4⟩, _⟩ := st
    rcases (show b = e ∨ b = it by simpa using hb) with z | z
    · rw [z]
      exact ⟨_, h1, fun v q => nomatch q⟩
    · rw [z]
      exact ⟨ob, h2, fun v q => by rw [h4] at q; cases q⟩
  keep := fun i h h' st kp => let ⟨⟨od, h1⟩, h2, h3⟩ := st; ⟨⟨od, kp e (by simp) _ h1⟩, h2.at fun o q => kp it (by simp) o q, h3⟩
  item := by
    intro X hP hw hK hc i pins s σ H E I hf st hg
    subst hP hw hK
    obtain ⟨⟨od, h1⟩, h2, hne⟩ := st
    obtain ⟨xs, x, hq, hx⟩ := hg
    obtain ⟨its, rv, p, hz⟩ := I.tuple hq
    obtain ⟨u0, hu0, ru0⟩ := rv.get hx
    have pT := isT_of p
    have hel : e < s.heap.objs.size := Heap.lt_size h1
    have hil : it < s.heap.objs.size := by obtain ⟨_, q, _⟩ := h2; exact Heap.lt_size q
    have nea : e ≠ a := fun z => by
      obtain ⟨o, q, c, _⟩ := pT
      rw [← z, h1] at q
      cases q
      exact absurd (show Value.type "enumerate" = Value.type "tuple" from c) (by decide)
    have nia : a ≠ it := fun z => by
      obtain ⟨o, q, c, _⟩ := pT
      obtain ⟨o2, q2, c2, _⟩ := h2
      rw [z, q2] at q
      cases q
      rw [c2] at c
      exact absurd c (by decide)
    have hlt : i < its.toArray.size := by
      have := (List.getElem?_eq_some_iff.mp hu0).1
      simpa using this
    refine wpAny_pyNext_enum_itemC (Draws.tuple (A := X.A.in1) (I.ok.hd hc) it a nia its.toArray) h1 ⟨h2, pT⟩ hlt hne (by simp [hne, nea]) fun u h' tk pu ho st' hT hsz hk => ?_
    have eu : u = u0 := by
      have e1 : its.toArray[i]? = some u0 := by simpa using hu0
      rw [e1] at pu
      exact (Option.some.inj pu).symm
    subst eu
    refine ⟨_, rfl, wpAny_letOwnedTupleGo_enum (s := { s with heap := h', toks := tk + 1 }) ho fun hb he' sb => ?_⟩
    have hT2 : hb.get? s.heap.objs.size = some { cls := .type "tuple", data := .seq #[.int i tk, u] } := (sb.2 _ (Nat.ne_of_gt hel)).trans hT
    have nw : ObjOk X.prog X.w (upd H s.heap.objs.size (.tup [.int (i : Nat), x])) hb s.heap.objs.size (.tup [.int (i : Nat), x]) := ⟨by show 2 ≤ sizeLine; decide, [.int i tk, u], .cons ⟨_, rfl⟩ (.cons ru0 .nil), ⟨_, hT2, rfl, _, rfl⟩⟩
    have J1 : Inv X pins σ (upd H s.heap.objs.size (.tup [.int (i : Nat), x])) { s with heap := hb, toks := tk + 1 } :=
      I.turnedNew (ch := [e, it]) (fun b ob hbm q => (sb.2 b (fun z => hbm (by simp [z]))).trans (hk b ob (fun z => hbm (by simp [z])) (fun z => hbm (by simp [z])) q)) hf (Nat.le_refl _) nw
    refine ⟨.ref s.heap.objs.size, _, J1, rfl, ⟨_, x, rfl, I.hok.fresh (Nat.le_refl _), rfl, fun ys hy => by rw [I.tuple_inj hy hq]; exact hx⟩, ⟨⟨u, ?_⟩, st'.1.at fun o q => (sb.2 it (Ne.symm hne)).trans q, hne⟩, fun b hbm => ?_⟩
    · rw [show ((i + 1 : Nat) : Int) = (i : Int) + 1 by omega]
      exact he'
    · have hlt' : b < s.heap.objs.size := by
        rcases (show b = e ∨ b = it by simpa using hbm) with z | z
        · rw [z]; exact hel
        · rw [z]; exact hil
      rw [upd_ne (Nat.ne_of_lt hlt')]
      exact (hf b hbm).1
  done := by
    intro X hP hw hK hc i pins s σ H E I hf st hg
    subst hP hw hK
    obtain ⟨⟨od, h1⟩, h2, hne⟩ := st
    obtain ⟨xs, hq, hx⟩ := hg
    obtain ⟨its, rv, p, hz⟩ := I.tuple hq
    have pT := isT_of p
    obtain ⟨f0, f1, f2, f3, f4, f5⟩ := hf it (by simp)
    have hl := rv.length
    have nia : a ≠ it := fun z => by
      obtain ⟨o, q, c, _⟩ := pT
      obtain ⟨o2, q2, c2, _⟩ := h2
      rw [z, q2] at q
      cases q
      rw [c2] at c
      exact absurd c (by decide)
    have fin : ∀ (s' : Shared) (E' : Value → Shared → Prop) (Q' : Value → Shared → Prop), s'.heap.IsTupleIter it a i → s'.heap.IsTuple a its.toArray → (∀ h' e', Heap.ExtBut it s'.heap h' → (∃ o, h'.get? e' = some o ∧ o.cls = .type "StopIteration") → E' (.ref e') { s' with heap := h' }) →
        wpAny (model X.prog X.w) X.A.in1 (Builtin.SmallTypes.nextOf (.ref it)) Q' E' s' := fun s' E' Q' a1 a2 a3 => wpAny_nextOf_tuple_end (I.ok.hd hc) a1 a2 (by simp; omega) a3
    have D : Draws X.prog X.w X.A.in1 it [it, a] i (fun _ _ => False) (fun j h => j = i ∧ h.IsTupleIter it a i ∧ h.IsTuple a its.toArray) :=
      { live := fun _ _ q => let ⟨o, ho, _⟩ := q.2.1; ⟨o, ho⟩
        frame := fun _ _ _ q kp => ⟨q.1, q.2.1.at fun o y => kp it (by simp) o y, q.2.2.at fun o y => kp a (by simp) o y⟩
        item := fun j s' Q' E' hj q _ => absurd q.1 (Nat.ne_of_lt hj)
        done := fun s' Q' E' q hE => fin s' E' Q' q.2.1 q.2.2 hE }
    exact wpAny_pyNext_enum_endD D h1 ⟨rfl, h2, pT⟩ fun h' eb => ⟨rfl, I.turned (t' := s.toks) (fun b o hb q => eb b o hb q) f0 f1 f3 f4 f5⟩
  self := fun A i s Q E st h => let ⟨⟨_, h1⟩, _⟩ := st; wpAny_pyIter_enum h1 h
def iEnumV (K : PySem.W.Frag) (ta : TA) : TI := fun σ H R => ta σ H fun vs H1 => ∃ a xs, vs = [.ref a] ∧ ((SqL K H1 a xs ∧ R (Ite K a) H1) ∨ (SqT K H1 a xs ∧ R (Itet K a) H1))
theorem pi_enumV {X : Cx} {e : Expr} {ta : TA} {p pos tpos : Pos} {elts : List Expr} {kk : Nat} (hg : Gl X "enumerate") (hm : X.mg "enumerate" = none) (ha : PA X [e] ta) (hs : starEach [e] X.env = [(false, eval e X.env)] := by rfl) :
    PI X (.Tuple elts kk tpos) (.Call (.Name "enumerate" p) [e] [] pos) (iEnumV X.K ta) := by
  refine ⟨fun pins s σ H R I h => ?_⟩
  refine Call_ (ld_blt I hg hm boot_enumerate (PyProof.Rows.callWith_type1 (thn (ha.run pos pins s σ H _ I h) fun us s1 ⟨vs, H1, I1, r1, q1⟩ => ?_) hs rfl))
  obtain ⟨a, xs, rfl, q⟩ := q1
  cases r1 with
  | cons r rr =>
    cases rr
    cases r
    have fpk : ∀ (b : Addr), b ∈ [s1.heap.objs.size + 1, s1.heap.objs.size] → FpOk X pins H1 b := fun b hb => by
      have hle : s1.heap.objs.size ≤ b := by
        rcases (show b = s1.heap.objs.size + 1 ∨ b = s1.heap.objs.size by simpa using hb) with z | z
        · rw [z]; exact Nat.le_add_right _ _
        · rw [z]; exact Nat.le_refl _
      exact I1.fpOk hle (I1.hok.fresh hle)
    rcases q with ⟨hq, q⟩ | ⟨hq, q⟩
    · obtain ⟨its, rv, p', hz⟩ := I1.list hq
      exact call_enumerate_list p'.isList fun h' he hit hsz hk => wpAny_pyIter_enum he ⟨s1.heap.objs.size + 1, _, _, _, H1, rfl, I1.kept (t' := s1.toks) hk, turn_enum a (s1.heap.objs.size + 1) s1.heap.objs.size, ⟨⟨.none, he⟩, hit, Nat.succ_ne_self _⟩, fpk, q⟩
    · obtain ⟨its, rv, p', hz⟩ := I1.tuple hq
      exact callEnum1 (begins_tuple a its.toArray) (isT_of p') fun h' he hit hk => wpAny_pyIter_enum he ⟨s1.heap.objs.size + 1, _, _, _, H1, rfl, I1.kept (t' := s1.toks) hk, turn_enumT a (s1.heap.objs.size + 1) s1.heap.objs.size, ⟨⟨.none, he⟩, ⟨_, hit, rfl, rfl⟩, Nat.succ_ne_self _⟩, fpk, q⟩
def EnvQ (K : PySem.W.Frag) (R : It → Hp → Prop) : List V → Hp → Prop := fun vs H1 => ∃ a xs, vs = [.ref a] ∧ ((SqL K H1 a xs ∧ R (Ite K a) H1) ∨ (SqT K H1 a xs ∧ R (Itet K a) H1))
theorem r_enumV {K : PySem.W.Frag} {σ : L2.St} {H : Hp} {R : It → Hp → Prop} {ta : TA} (k : ta σ H (EnvQ K R)) : iEnumV K ta σ H R := k
section
variable {α : Type} {K : PySem.W.Frag} {a : Addr} {xs : List V}
theorem walk_enumT : Walk (Itet K a) xs.length (fun H => SqT K H a xs) fun i H x H' => ∃ T y, x = .ref T ∧ H T = none ∧ H' = upd H T (.tup [.int (i : Nat), y]) ∧ xs[i]? = some y where
  goes := fun i H hi g => ⟨xs, _, g, List.getElem?_eq_getElem hi⟩
  stops := fun H g => ⟨xs, g, Nat.le_refl _⟩
  yields := fun i H x H' hi g y => by
    obtain ⟨T, z, e1, e2, e3, e4⟩ := y
    exact ⟨T, z, e1, e2, e3, e4 xs g⟩
/-- one's own list that is walked with its places -/
abbrev PrE (K : PySem.W.Frag) (enc : α → PyData) : Hp → V → α × Nat → Prop := fun B x y => ∃ T u, x = .ref T ∧ B T = some (.tup [.int (y.2 : Nat), u]) ∧ Dp K B u (enc y.1)
theorem src_enumT {as : List α} {enc : α → PyData} : Src (Itet K a) (fun B _ => SqT K B a xs ∧ DpAll K B xs (as.map enc)) as.zipIdx (PrE K enc) := by
  by_cases hl : xs.length = as.length
  · refine ⟨_, _, (by rw [List.length_zipIdx]; exact hl ▸ walk_enumT (xs := xs)), fun F B L H S g => S.tqB g.1, fun F B L i H x H' S g y hi => ?_⟩
    obtain ⟨T, y', rfl, n, rfl, e2⟩ := y
    obtain ⟨d, hd, hx⟩ := g.2.get e2
    rw [List.getElem?_map] at hd
    cases e : as[i]? with
    | none => rw [e] at hd; cases hd
    | some z =>
      rw [e] at hd
      cases hd
      exact ⟨(z, i), upd B T (.tup [.int (i : Nat), y']), getElem_zipIdx e, S.exB n, S.newB n, T, y', rfl, upd_same, hx.up (S.exB n)⟩
  · refine ⟨fun _ => False, fun _ _ _ _ => False, ⟨fun _ _ _ h => h.elim, fun _ h => h.elim, fun _ _ _ _ _ h => h.elim⟩, fun F B L H S g => hl ?_, fun F B L i H x H' S g y hi => y.elim⟩
    have := g.2.length
    rw [List.length_map] at this
    exact this
theorem Src.weak {J : It} {GB GB' : Hp → Led → Prop} {as : List α} {R : Hp → V → α → Prop} (s : Src J GB as R) (h : ∀ B L, GB' B L → GB B L) : Src J GB' as R := by
  obtain ⟨G, Y, wk, h1, h2⟩ := s.ex
  exact ⟨G, Y, wk, fun F B L H S g => h1 F B L H S (h B L g), fun F B L i H x H' S g => h2 F B L i H x H' S (h B L g)⟩
/-- data walked with places: a list or a tuple -/
theorem enuD {F : Ent} {B H : Hp} {L : Led} {R : It → Hp → Prop} {as : List α} {enc : α → PyData} {v : V} (S : Ok F B L H) (h : Dp K B v (.list (as.map enc)) ∨ Dp K B v (.tuple (as.map enc)))
    (k : ∀ J, Src J (fun B' _ => Ex B B') as.zipIdx (PrE K enc) → R J H) : EnvQ K R [v] H := by
  rcases h with h | h
  · obtain ⟨a, xs, rfl, hq, ha⟩ := Dp.lst_inv h
    exact ⟨a, xs, rfl, .inl ⟨S.sqB hq, k _ (src_enum.weak fun B' L' (e : Ex B B') => ⟨.inl (e.sqL hq), ha.up e⟩)⟩⟩
  · obtain ⟨a, xs, rfl, hq, ha⟩ := Dp.tup_inv h
    exact ⟨a, xs, rfl, .inr ⟨S.tqB hq, k _ (src_enumT.weak fun B' L' (e : Ex B B') => ⟨e.sqT hq, ha.up e⟩)⟩⟩
end
end WK

namespace WK
open PySem PySem.Spec PyProof.Rows L2
theorem pe_bt {X : Cx} {x : Str} {n : String} {pos : Pos} (hm : X.mg x = none) (hv : bootBuiltins x = some (.type n)) (hg : Gl X x) (hn : x ≠ "__name__" := by decide) (hd : (x == ("__debug__" : Str)) = false := by decide) : PE X (.Name x pos) (tC (.ty n)) :=
  pe_bltn hg hm hv (show RelV (.ty n) (.type n) from rfl) hn hd
/-! isinstance of data -/
def tyD : PyData → String
  | .none => "NoneType"
  | .bool _ => "bool"
  | .int _ => "int"
  | .str _ => "str"
  | .list _ => "list"
  | .tuple _ => "tuple"
  | _ => ""
def isT (a b : String) : Bool := a == b || (a == "bool" && b == "int")
section
variable {P : Program} {w : World} {K : PySem.W.Frag} {F : Ent} {B H : Hp} {L : Led} {Q : VK} {v : V} {d : PyData} {a : Addr} {xs : List V}
theorem tyx_L (h : SqL K H a xs) : TyX K H (.ref a) (.type "list") := by
  rcases h with (h | ⟨o, h⟩) | ⟨o, _, _, e, c, _⟩
  · exact .base (.lst h)
  · exact .base (.frz h)
  · exact .kList e c
theorem tyx_T (h : SqT K H a xs) : TyX K H (.ref a) (.type "tuple") := by
  rcases h with (h | ⟨o, h⟩) | ⟨o, _, _, e, c, _⟩
  · exact .base (.tup h)
  · exact .fTuple h
  · exact .kTuple e c
theorem tyx_D (h : Dp K H v d) : TyX K H v (.type (tyD d)) := by
  cases h with
  | non => exact .base .non
  | bl b => exact .base (.bl b)
  | int i => exact .base (.int i)
  | str x => exact .base (.str x)
  | lst h _ => exact tyx_L h
  | tup h _ => exact tyx_T h
abbrev kTypes : List String := ["list", "tuple", "str", "int", "bool"]
theorem kitB_D (h : Dp K H v d) {T : String} (hT : T ∈ kTypes) : kitB (tyD d) T = some (isT (tyD d) T) := by
  have key : ∀ a ∈ ["NoneType", "bool", "int", "str", "list", "tuple"], ∀ b ∈ kTypes, kitB a b = some (isT a b) := by decide +kernel
  refine key (tyD d) ?_ T hT
  cases h <;> simp [tyD]
theorem v_isiD {T : String} (S : Ok F B L H) (h : Dp K B v d) (hT : T ∈ kTypes) (k : Q (.bl (isT (tyD d) T)) H) : CallU P w K (.builtin "isinstance") [v, .ty T] H Q :=
  .ofK (r := rIsi) (fun _ _ => call_isi) ⟨v, .ty T, .type (tyD d), .type T, _, rfl, .ty T, tyx_D (S.dp h), kit_ty (kitB_D h hT), k⟩
theorem v_isiTL {p : Addr} (S : Ok F B L H) (h : Dp K B v d) (hp : B p = some (.tup [.ty "tuple", .ty "list"])) (k : Q (.bl (isT (tyD d) "tuple" || isT (tyD d) "list")) H) : CallU P w K (.builtin "isinstance") [v, .ref p] H Q := by
  refine .ofK (r := rIsiT) (fun _ _ => call_isiT) ⟨v, p, [.ty "tuple", .ty "list"], .type (tyD d), [.type "tuple", .type "list"], _, rfl, S.stay hp, .cons (.ty _) (.cons (.ty _) .nil), tyx_D (S.dp h), ?_, k⟩
  refine kitAny_cons (kit_ty (kitB_D h (by decide))) (fun e => kitAny_cons (kit_ty (kitB_D h (by decide))) (fun e2 => ?_) (fun e2 => ?_)) (fun e => ?_)
  · rw [e, e2]
    exact kitAny_nil
  · rw [e2, Bool.or_true]
  · rw [e, Bool.true_or]
end
/-- what may be compared place by place -/
def AlOk : Nat → PyData → Prop
  | _, .none => True
  | _, .bool _ => True
  | _, .int _ => True
  | _, .str _ => True
  | n + 1, .list ds => ds.length ≤ 100000 ∧ ∀ d ∈ ds, AlOk n d
  | n + 1, .tuple ds => ds.length ≤ 100000 ∧ ∀ d ∈ ds, AlOk n d
  | _, _ => False
theorem AlOk.lst {n : Nat} {ds : List PyData} (h : ds.length ≤ 100000) (k : ∀ d ∈ ds, AlOk n d) : AlOk (n + 1) (.list ds) := ⟨h, k⟩
theorem AlOk.tup {n : Nat} {ds : List PyData} (h : ds.length ≤ 100000) (k : ∀ d ∈ ds, AlOk n d) : AlOk (n + 1) (.tuple ds) := ⟨h, k⟩
theorem AlOk.int {n : Nat} {i : Int} : AlOk n (.int i) := by cases n <;> exact True.intro
theorem AlOk.str {n : Nat} {z : Str} : AlOk n (.str z) := by cases n <;> exact True.intro
theorem AlOk.bl {n : Nat} {b : Bool} : AlOk n (.bool b) := by cases n <;> exact True.intro
theorem AlOk.non {n : Nat} : AlOk n .none := by cases n <;> exact True.intro
end WK
namespace WK
open PySem PySem.Spec PyProof.Rows L2
/-- data in a list or a tuple -/
def Dpl (K : PySem.W.Frag) (B : Hp) (v : V) (ds : List PyData) : Prop := Dp K B v (.list ds) ∨ Dp K B v (.tuple ds)
theorem Dpl.up {K : PySem.W.Frag} {B B' : Hp} {v : V} {ds : List PyData} (e : Ex B B') (h : Dpl K B v ds) : Dpl K B' v ds := h.elim (fun h => .inl (h.up e)) fun h => .inr (h.up e)
section
variable {α : Type} {F : Ent} {B H : Hp} {L : Led} {σ : L2.St} {K : PySem.W.Frag} {P : Program} {w : World} {tg : Expr} {as : List α} {enc : α → PyData} {v : V} {Q : VK}
theorem forDW {g : TG} {tb : TS} {D : Ends} (S : Ok F B L H) (h : Dpl K B v (as.map enc)) (I : Nat → L2.St → Hp → Led → Prop) (h0 : I 0 σ B L)
    (hs : ∀ i a x σ B0 B1 L H, as[i]? = some a → I i σ B0 L → Ex B B0 → Ex B0 B1 → Ok F B1 L H → Dp K B1 x (enc a) → g x σ H fun σ2 H2 => tb { D with nx := NxE F B (I (i + 1)), ct := NxE F B (I (i + 1)), bk := D.nx } σ2 H2)
    (hd : ∀ σ B1 L H, I as.length σ B1 L → Ex B B1 → Ok F B1 L H → D.nx σ H) : ItU P w K tg v H (ForW g tb D σ) := by
  rcases h with h | h
  · exact forDL S h I h0 hs hd
  · exact forDT S h I h0 hs hd
theorem lcPureW {g : TG} {tt : TT} {te : TE} {vs : List Nat} (S : Ok F B L H) (h : Dpl K B v (as.map enc)) (keep : α → Bool) (f : α → PyData) (hz : as.length ≤ 100000)
    (hs : ∀ a x B1 D acc H1 (C : VK) (Cs : Hp → Prop), a ∈ as → Ex B B1 → Ok F B1 ((D, .lst acc) :: L) H1 → Dp K B1 x (enc a) →
      (∀ y H4 B2, keep a = true → Ex B1 B2 → Ok F B2 ((D, .lst acc) :: L) H4 → Dp K B2 y (f a) → C y H4) → (∀ H3 B2, keep a = false → Ex B1 B2 → Ok F B2 ((D, .lst acc) :: L) H3 → Cs H3) →
      g x (wipe σ vs) H1 fun σ2 H2 => wipe σ2 vs = wipe σ vs ∧ tt σ2 H2 fun b H3 => if b = true then te σ2 H3 C else Cs H3)
    (hd : ∀ D acc B1 H1, Ex B B1 → Ok F B1 ((D, .lst acc) :: L) H1 → DpAll K B1 acc ((as.filter keep).map f) → Q (.ref D) H1) : ItU P w K tg v H (LcW g tt te vs σ Q) := by
  rcases h with h | h
  · exact lcPureL S h keep f hz hs hd
  · exact lcPureT S h keep f hz hs hd
theorem v_lenDW {ds : List PyData} (S : Ok F B L H) (h : Dpl K B v ds) (k : Q (.int ds.length) H) : CallU P w K (.builtin "len") [v] H Q := by
  rcases h with h | h
  · exact v_lenDL S h k
  · exact v_lenDT S h k
theorem v_ixDW {ds : List PyData} {d : PyData} {i : Int} {j : Nat} (S : Ok F B L H) (h : Dpl K B v ds) (hi : i = (j : Int)) (hj : ds[j]? = some d) (k : ∀ u, Dp K B u d → Q u H) : IxU P w K v (.int i) H Q := by
  rcases h with h | h
  · exact v_ixDL S h hi hj k
  · exact v_ixDT S h hi hj k
end
end WK
namespace WK
open PySem PySem.Spec PyProof.Rows L2
section
variable {P : Program} {w : World} {K : PySem.W.Frag} {H : Hp} {Q : VK} {v : V}
theorem v_eqNon (k : Q (.bl true) H) : OpU P w K (compareOp .Eq) .non .non H Q := .of (fun _ _ => op_eq) ⟨rfl, by simpa using k⟩
theorem v_isN (k : Q (.bl (decide (v = .non))) H) : OpU P w K (compareOp .Is) v .non H Q := .of (fun _ _ => op_isN) ⟨rfl, k⟩
theorem v_notN (k : Q (.bl (!decide (v = .non))) H) : OpU P w K (compareOp .IsNot) v .non H Q := .of (fun _ _ => op_notN) ⟨rfl, k⟩
end
end WK
namespace WK
open PySem L2
theorem isSeqT {d : PyData} {ds : List PyData} (h : d = .list ds ∨ d = .tuple ds) : (isT (tyD d) "tuple" || isT (tyD d) "list") = true := by
  rcases h with rfl | rfl
  · show (isT "list" "tuple" || isT "list" "list") = true
    decide
  · show (isT "tuple" "tuple" || isT "tuple" "list") = true
    decide
theorem isSeqF {K : PySem.W.Frag} {B : Hp} {v : V} {d : PyData} (hv : Dp K B v d) (h : ¬ ∃ ds, d = .list ds ∨ d = .tuple ds) : (isT (tyD d) "tuple" || isT (tyD d) "list") = false := by
  cases hv with
  | non => show (isT "NoneType" "tuple" || isT "NoneType" "list") = false; decide
  | bl b => show (isT "bool" "tuple" || isT "bool" "list") = false; decide
  | int i => show (isT "int" "tuple" || isT "int" "list") = false; decide
  | str x => show (isT "str" "tuple" || isT "str" "list") = false; decide
  | lst h1 h2 => exact absurd ⟨_, .inl rfl⟩ h
  | tup h1 h2 => exact absurd ⟨_, .inr rfl⟩ h
theorem isT_ii : isT "int" "int" = true := by decide
theorem isT_bi : isT "bool" "int" = true := by decide
theorem isT_is : isT "int" "str" = false := by decide
theorem isT_bs : isT "bool" "str" = false := by decide
theorem isT_ss : isT "str" "str" = true := by decide
theorem isT_ns : isT "NoneType" "str" = false := by decide
end WK

/-! set(a list of ints and texts) -/
namespace WK
open PySem PySem.Spec PyProof.Rows L2
/-- the keys seen among the first i, and how many unlike ones -/
def seen (ks : Nat → Key) (i : Nat) (k : Key) : Bool := (List.range i).any fun j => decide (ks j = k)
def unlike (ks : Nat → Key) : Nat → Nat
  | 0 => 0
  | i + 1 => if seen ks i (ks i) = true then unlike ks i else unlike ks i + 1
theorem seen_succ (ks : Nat → Key) (i : Nat) (k : Key) : seen ks (i + 1) k = (seen ks i k || decide (k = ks i)) := by
  unfold seen
  rw [List.range_succ, List.any_append]
  simp only [List.any_cons, List.any_nil, Bool.or_false]
  congr 1
  by_cases h : ks i = k
  · rw [decide_eq_true h, decide_eq_true h.symm]
  · rw [decide_eq_false h, decide_eq_false fun z => h z.symm]
theorem unlike_le (ks : Nat → Key) : ∀ i, unlike ks i ≤ i
  | 0 => Nat.le_refl _
  | i + 1 => by
    have := unlike_le ks i
    unfold unlike
    split <;> omega
section
variable {prog : Program} {w : World} {A : Around} {R : Result → Shared → Prop} {I : Addr} {fp wr : List Addr} {G : Array GenState → Array GenState → Prop} {n : Nat} {P : Nat → Value → Prop} {St : Nat → Shared → Prop}
theorem set_fill (W : WalksS prog w A.in1 I fp wr G n P St) (D : Addr) (hD : D ∉ fp) (ks : Nat → Key) (hks : ∀ i v, P i v → RelV (kV (ks i)) v) (hb : n + 1 < scanBound) :
    ∀ (left i : Nat) (s : Shared), n - i = left → i ≤ n → St i s → s.heap.SetOf (mixKind prog w) D (seen ks i) (unlike ks i) →
      (∀ s', Moved (D :: wr) G s s' → s'.heap.SetOf (mixKind prog w) D (seen ks n) (unlike ks n) → R (.ok (.ret .none)) s') → codeAny (model prog w) A (.builtin "set.update.loop" ⟨[.ref D, .ref I], []⟩) R s := by
  have out : D ∉ wr := fun h => hD (W.sub _ h)
  have more : ∀ b ∈ wr, b ∈ D :: wr := fun b hb => List.mem_cons_of_mem _ hb
  have stays : ∀ {s s' : Shared} {S : Key → Bool} {c : Nat}, Moved wr G s s' → s.heap.SetOf (mixKind prog w) D S c → s'.heap.SetOf (mixKind prog w) D S c := fun hm hS => setOf_at hS fun o ho => hm.heap D o out ho
  intro left
  induction left with
  | zero =>
    intro i s hk hi hst hS fin
    obtain rfl : i = n := by omega
    refine codeAny_builtin PyProof.Rows.F.entry_set_update_loop ?_
    rw [Around.under_plainId PyProof.Rows.F.plain_set_update_loop _]
    show wpAny _ A.in1 (pyNext (.ref I) >>= _) _ _ s
    exact wpAny_bind (W.done s _ _ hst fun s' hm => wpAny_pure (fin s' (hm.mono more) (stays hm hS)))
  | succ left ih =>
    intro i s hk hi hst hS fin
    have hlt : i < n := by omega
    refine codeAny_builtin PyProof.Rows.F.entry_set_update_loop ?_
    rw [Around.under_plainId PyProof.Rows.F.plain_set_update_loop _]
    show wpAny _ A.in1 (pyNext (.ref I) >>= _) _ _ s
    refine wpAny_bind (W.item i s _ _ hlt hst fun v s1 hv hst1 hm => ?_)
    have rv := hks i v hv
    show wpAny _ A.in1 (holding [v] (setAdd D v) >>= _) _ _ s1
    refine wpAny_bind (wpAny_holding ?_)
    unfold setAdd
    refine wpAny_holding (wpAny_bind ((mixKind prog w).pyHash (k := ks i) (kV_is rv) ?_))
    have hS1 := stays hm hS
    have room : unlike ks i + 1 < scanBound := by have := unlike_le ks i; omega
    refine wpAny_setAddHashed_of (knd := mixKind prog w) (s := { s1 with toks := s1.toks + 1 }) (kV_is rv) (key_scan rv) hS1 room fun h' sb new => ?_
    have new1 : h'.SetOf (mixKind prog w) D (seen ks (i + 1)) (unlike ks (i + 1)) := by
      have e1 : (fun k => seen ks i k || decide (k = ks i)) = seen ks (i + 1) := funext fun k => (seen_succ ks i k).symm
      have e2 : unlike ks (i + 1) = if seen ks i (ks i) = true then unlike ks i else unlike ks i + 1 := rfl
      rw [e1] at new
      rw [e2]
      exact new
    refine wpAny_pure ⟨plainId_quiet PyProof.Rows.F.plain_set_update_loop _, ih (i + 1) _ (by omega) hlt (W.frame _ s1 _ _ hst1 (Nat.le_succ _) fun b hb o e => ?_) new1 fun s2 hm2 hS2 => ?_⟩
    · rw [sb.2 b fun z => hD (z ▸ hb)]
      exact e
    · refine fin s2 (Moved.trans W.gtrans ((hm.mono more).then_heap (Nat.le_succ _) fun b o hb e => ?_) hm2) hS2
      rw [sb.2 b fun z => hb (by rw [z]; exact List.mem_cons_self)]
      exact e
end
section
variable {prog : Program} {w : World} {A : Around} {E : Value → Shared → Prop} {s : Shared}
set_option maxHeartbeats 4000000 in
theorem set_init_of {M : Model} {A : Around} {E : Value → Shared → Prop} {s : Shared} {Q : Fin → Shared → Prop} {D l : Addr} {dict : Option Addr} {slots : Array (Option Value)} {od : Data} {led : Bool}
    (at0 : s.heap.get? D = some { cls := .type "set", dict := none, data := .set #[] 0 (.fresh 0 0 led) }) (hol : s.heap.get? l = some { cls := .type "list", dict := dict, data := od, slots := slots })
    (k : wpAny M A (pyIter (.ref l)) (fun a s' => wpAny M A (runValue (Code.builtin "set.update.loop" ⟨[.ref D, a], []⟩)) (fun _ s' => Q (.done (.ret .none)) s') E s') E s) :
    wpAny M A (Builtin.«set.__init__» ⟨[.ref D, .ref l], []⟩) Q E s := by
  have f8 := PySem.F.sub_list_set
  have f9 := PySem.F.sub_list_frozenset
  have ne : (Value.type "list" == Value.type "dict") = false := by decide
  unfold Builtin.«set.__init__» noKeywords Builtin.Frozenset.updateFrom
  generalize hPI : pyIter = PI at k
  wp_walk
  refine wpAny_mono k (fun a s' h => ?_) fun _ _ h => h
  exact wpAny_bind (wpAny_mono h (fun _ s2 h2 => wpAny_pure (wpAny_pure h2)) fun _ _ h => h)
set_option maxHeartbeats 4000000 in
theorem set_of_list {l : Addr} {items : Array Value} {ks : Nat → Key} {Q : Value → Shared → Prop} (hh : A.handled = none) (hl : s.heap.IsList l items) (hi : ∀ (i : Nat) (v : Value), items[i]? = some v → RelV (kV (ks i)) v) (hb : items.size + 1 < scanBound)
    (fin : ∀ (h' : Heap) (tk : Nat), h'.SetOf (mixKind prog w) s.heap.objs.size (seen ks items.size) (unlike ks items.size) → (∀ b o, b < s.heap.objs.size → s.heap.get? b = some o → h'.get? b = some o) → Q (.ref s.heap.objs.size) { s with heap := h', toks := tk }) :
    wpAny (model prog w) A (call (.type "set") [.ref l]) Q E s := by
  obtain ⟨c, tl, hmro⟩ := PySem.F.called_set.mro
  have f1 := PySem.F.called_set.made
  have f2 := PySem.F.called_set.sub
  refine wpAny_call (codeAny_of_tree ?_)
  show wpAny _ _ (callAny (.type "set") _) _ _ _
  refine wpAny_pure ⟨Code.quiet_builtin _ (by decide +kernel), codeAny_builtin PySem.F.entry_type_call ?_⟩
  rw [Around.under_plain (weight_type_call_type "set" [.ref l] []) rfl]
  have f3 := PySem.F.called_set.notType
  have f4 := PySem.F.called_set.canCreate
  have f5 := PySem.F.typeCall_set_1 (.ref l)
  repeat (any_goals (first | assumption | wp_step))
  refine codeAny_mono (code_set_new_1 (.ref l) (E := E) (Q₁ := fun obj s1 => ∃ led : Bool, obj = .ref s.heap.objs.size ∧ s1 = { s with heap := s.heap.push { cls := .type "set", dict := none, data := .set #[] 0 (.fresh 0 0 led) } }) fun led => ⟨led, rfl, rfl⟩) fun r s1 hr => ?_
  cases r with
  | error e => exact hr
  | ok fl =>
    cases fl with
    | ret obj =>
      obtain ⟨led, rfl, rfl⟩ := hr
      generalize hg : s.heap.push { cls := .type "set", dict := none, data := .set #[] 0 (.fresh 0 0 led) } = g
      have at0 : g.get? s.heap.objs.size = some { cls := .type "set", dict := none, data := .set #[] 0 (.fresh 0 0 led) } := by rw [← hg]; exact Heap.get?_push_size _ rfl
      have kept : ∀ {b : Addr} {o : Obj}, s.heap.get? b = some o → g.get? b = some o := fun e => by rw [← hg]; exact Heap.get?_push_of_some _ e
      have gsz : g.objs.size = s.heap.objs.size + 1 := by rw [← hg]; exact Heap.size_push ..
      have ty : Shared.TypeIs { s with heap := g } (.ref s.heap.objs.size) "set" := ⟨_, at0, rfl⟩
      have f6 := PySem.F.called_set.init.lookup
      have f7 := PySem.F.called_set.init.bind (.ref s.heap.objs.size)
      repeat (any_goals (first | assumption | wp_step))
      refine codeAny_mono (codeAny_call_builtin (R := wants (fun r s2 => r = .none ∧ ∃ h' tk, s2 = { s with heap := h', toks := tk } ∧ h'.SetOf (mixKind prog w) s.heap.objs.size (seen ks items.size) (unlike ks items.size) ∧
          (∀ b o, b < s.heap.objs.size → s.heap.get? b = some o → h'.get? b = some o)) E) PySem.F.called_set.init.plain PySem.F.entry_set_init (check_set_init_1 ty ?_)) fun r2 s2 hr2 => ?_
      · obtain ⟨ol, hol, hcl, nl, hdl⟩ := hl
        obtain ⟨ocls, odict, odata, oslots⟩ := ol
        simp only at hcl hdl
        subst hcl; subst hdl
        have hol1 := kept hol
        have hl1 : g.IsList l items := ⟨_, hol1, rfl, nl, rfl⟩
        refine set_init_of at0 hol1 (wpAny_pyIter_list hl1 (wpAny_runValue ?_))
        have lts : l < s.heap.objs.size := Heap.lt_size hol
        have hh3 : A.in1.in1.in1.handled = none := by simp [hh]
        have neI : l ≠ g.objs.size := by rw [gsz]; exact Nat.ne_of_lt (Nat.lt_succ_of_lt lts)
        have outs : s.heap.objs.size ∉ [g.objs.size, l] := by
          rw [gsz]
          simp only [List.mem_cons, List.not_mem_nil, or_false, not_or]
          exact ⟨Nat.ne_of_lt (Nat.lt_succ_self _), Nat.ne_of_gt lts⟩
        refine set_fill ((Walks.list hh3 _ l neI items).toS) s.heap.objs.size outs ks hi hb (items.size - 0) 0 _ (by omega) (Nat.zero_le _) ⟨⟨_, Heap.get?_push_size _ rfl, rfl, rfl⟩, (hl1.push _)⟩ ?start ?done
        case start =>
          have at1 : (g.push { cls := .type "list_iterator", data := .fields #[.ref l, .int 0 0] }).get? s.heap.objs.size = some { cls := .type "set", dict := none, data := .set #[] 0 (.fresh 0 0 led) } := Heap.get?_push_of_some _ at0
          exact ⟨_, #[], 0, _, at1, ⟨rfl, rfl, rfl⟩, rfl, fun e he => by simp at he, fun k => ⟨fun z => by simp [seen] at z, fun ⟨e, he, _⟩ => by simp at he⟩, by decide, by rfl, rfl⟩
        case done =>
          intro s' hm hS
          obtain ⟨h', g', d', tk', os'⟩ := s'
          obtain rfl : g' = s.gens := hm.gens
          obtain rfl : d' = s.drawn := hm.drawn
          obtain rfl : os' = s.os := hm.os
          refine ⟨rfl, h', tk', rfl, hS, fun b o hb e => ?_⟩
          refine hm.heap b o ?_ (Heap.get?_push_of_some _ (kept e))
          simp only [List.mem_cons, List.not_mem_nil, or_false, not_or]
          exact ⟨Nat.ne_of_lt hb, by rw [gsz]; exact Nat.ne_of_lt (Nat.lt_succ_of_lt hb)⟩
      · cases r2 with
        | error e => exact hr2
        | ok fl2 =>
          cases fl2 with
          | ret r =>
            obtain ⟨rfl, h', tk, rfl, hS', hk'⟩ := hr2
            repeat (any_goals (first | assumption | wp_step))
            exact fin _ _ hS' hk'
          | _ => exact hr2.elim
    | _ => exact hr.elim
end
section
variable {P : Program} {w : World} {K : PySem.W.Frag} {H B : Hp} {Q : VK} {F : Ent} {L : Led} {a : Addr}
/-- set(xs), xs a list of ints and texts -/
theorem v_setOf {xs : List Key} (S : Ok F B L H) (h : SqL K H a (xs.map kV)) (hz : xs.length < 4000)
    (k : ∀ p H', Ok F B ((p, SetK P w p (seen (fun i => xs.getD i (.inl 0)) xs.length) (unlike (fun i => xs.getD i (.inl 0)) xs.length)) :: L) H' → Q (.ref p) H') : CallU P w K (.type "set") [.ref a] H Q := by
  intro X pins s σ us al I r
  obtain ⟨rfl, rfl, rfl, hc, hu⟩ := al
  obtain ⟨u, rfl, ru⟩ := vals1 r
  obtain rfl : u = Value.ref a := ru
  obtain ⟨its, rv, pl, _⟩ := I.list h
  have hlen : its.toArray.size = xs.length := by rw [List.size_toArray, ← rv.length, List.length_map]
  refine set_of_list (I.ok.hd hc) pl.isList (ks := fun i => xs.getD i (.inl 0)) (fun i v e => ?_) (by rw [hlen]; unfold scanBound; omega) fun h' tk new kp => ?_
  · have e' : its[i]? = some v := by simpa using e
    have hi : i < xs.length := by
      have := (List.getElem?_eq_some_iff.mp e').1
      have := rv.length
      rw [List.length_map] at this
      omega
    obtain ⟨v', hv', r'⟩ := rv.get (i := i) (x := kV (xs[i])) (by rw [List.getElem?_map, List.getElem?_eq_getElem hi]; rfl)
    rw [e'] at hv'
    cases hv'
    show RelV (kV (xs.getD i (.inl 0))) v
    rw [List.getD_eq_getElem?_getD, List.getElem?_eq_getElem hi]
    exact r'
  · rw [hlen] at new
    have hn : H s.heap.objs.size = none := I.hok.fresh (Nat.le_refl _)
    refine ⟨.ref s.heap.objs.size, upd H s.heap.objs.size (SetK X.prog X.w s.heap.objs.size _ _), I.laid (a := s.heap.objs.size) (o := SetK X.prog X.w s.heap.objs.size _ _) (h' := h') (t' := tk) (fun b o e => kp b o (Heap.lt_size e) e) (Nat.le_refl _) (setK_new new), rfl, k _ _ (S.newL hn)⟩
theorem v_lenSet {p : Addr} {T : Key → Bool} {n : Nat} (h : H p = some (SetK P w p T n)) (hz : n < 2 ^ 62) (k : Q (.int n) H) : CallU P w K (.builtin "len") [.ref p] H Q := by
  intro X pins s σ us al I r
  obtain ⟨rfl, rfl, rfl, hc, hu⟩ := al
  obtain ⟨u, rfl, ru⟩ := vals1 r
  obtain rfl : u = Value.ref p := ru
  obtain ⟨o, es, ep, t, ho, hex, hd, _, _, _, hf, hn⟩ := setK_get I h
  exact call_len_set ho hex hd hf (by rw [hn]; omega) ⟨.int n, H, I.tok _, ⟨_, by rw [hn]⟩, k⟩
end
/-- all unlike: as many as there are -/
theorem unlike_nodup {xs : List Key} (h : xs.Nodup) : ∀ i, i ≤ xs.length → unlike (fun i => xs.getD i (.inl 0)) i = i
  | 0, _ => rfl
  | i + 1, hi => by
    have ih := unlike_nodup h i (by omega)
    have no : seen (fun i => xs.getD i (.inl 0)) i (xs.getD i (.inl 0)) = false := by
      unfold seen
      rw [List.any_eq_false]
      intro j hj
      rw [List.mem_range] at hj
      simp only [decide_eq_true_eq]
      have hj' : j < xs.length := by omega
      have hi' : i < xs.length := by omega
      rw [List.getD_eq_getElem?_getD, List.getD_eq_getElem?_getD, List.getElem?_eq_getElem hj', List.getElem?_eq_getElem hi']
      exact (List.pairwise_iff_getElem.mp h) j i hj' hi' hj
    show (if seen _ i _ = true then _ else _) = _
    rw [no, if_neg Bool.false_ne_true, ih]
end WK
namespace WK
open PySem PySem.Spec PyProof.Rows L2
section
variable {P : Program} {w : World} {F : Ent} {B H : Hp} {L : Led} {K : PySem.W.Frag} {Q : VK} {v : V}
theorem v_setOfD {ss : List Str} (S : Ok F B L H) (h : Dp K B v (.list (ss.map PyData.str))) (hz : ss.length < 4000)
    (k : ∀ p H', Ok F B ((p, SetK P w p (seen (fun i => (ss.map fun s => (Sum.inr s : Key)).getD i (.inl 0)) ss.length) (unlike (fun i => (ss.map fun s => (Sum.inr s : Key)).getD i (.inl 0)) ss.length)) :: L) H' → Q (.ref p) H') : CallU P w K (.type "set") [v] H Q := by
  obtain ⟨a, xs, rfl, hq, ha⟩ := Dp.lst_inv h
  rw [ha.strs] at hq
  have e : ss.map V.str = (ss.map fun s => (Sum.inr s : Key)).map kV := by rw [List.map_map]; rfl
  rw [e] at hq
  have := v_setOf (P := P) (w := w) (Q := Q) S (S.sqB hq) (by rw [List.length_map]; exact hz)
  rw [List.length_map] at this
  exact this k
theorem nodup_inr {ss : List Str} (h : ss.Nodup) : (ss.map fun s => (Sum.inr s : Key)).Nodup := by
  rw [List.nodup_iff_pairwise_ne] at h ⊢
  rw [List.pairwise_map]
  exact h.imp fun hab e => hab (Sum.inr.inj e)
/-- len(set(texts)), texts unlike one another -/
theorem unlike_strs {ss : List Str} (h : ss.Nodup) : unlike (fun i => (ss.map fun s => (Sum.inr s : Key)).getD i (.inl 0)) ss.length = ss.length := by
  have := unlike_nodup (nodup_inr h) ss.length (by rw [List.length_map]; exact Nat.le_refl _)
  exact this
end
end WK

/-! a book of parts as data -/
namespace PM
open PySem L2
abbrev letters : Str := "abcdefghijklmnopqrstuvwxyz"
def isNameM (z : Str) : Bool := decide (1 ≤ (z.length : Int)) && (decide ((z.length : Int) ≤ 8) && (z.cps.toList.map fun c => decide (c ∈ letters.cps.toList)).all id)
structure PRow where
  name : Str
  needs : List (Str × Int)
  steps : List (Int × Int)
  lot : Int
  lead : Int
abbrev encNeed (x : Str × Int) : PyData := .tuple [.str x.1, .int x.2]
abbrev encStep (x : Int × Int) : PyData := .tuple [.int x.1, .int x.2]
abbrev encRow (r : PRow) : PyData := .tuple [.str r.name, .tuple (r.needs.map encNeed), .tuple (r.steps.map encStep), .int r.lot, .int r.lead]
abbrev encRest (r : PRow) : PyData := .tuple [.tuple (r.needs.map encNeed), .tuple (r.steps.map encStep), .int r.lot, .int r.lead]
/-- a row that may stand behind the names -/
structure GoodRow (names : List Str) (r : PRow) : Prop where
  nm : isNameM r.name = true
  new : r.name ∉ names
  lot : 1 ≤ r.lot ∧ r.lot ≤ 99
  lead : 0 ≤ r.lead ∧ r.lead ≤ 30
  nd : (r.needs.map (·.1)).Nodup
  known : ∀ x ∈ r.needs, x.1 ∈ names
  many : ∀ x ∈ r.needs, 1 ≤ x.2 ∧ x.2 ≤ 9
  few : r.steps.length ≤ 5
  steps : ∀ x ∈ r.steps, (0 ≤ x.1 ∧ x.1 < 6) ∧ 1 ≤ x.2 ∧ x.2 ≤ 99

theorem nodup_sub_length {α : Type} [DecidableEq α] {l l' : List α} (h : l.Nodup) (hs : ∀ x ∈ l, x ∈ l') : l.length ≤ l'.length := by
  induction l generalizing l' with
  | nil => exact Nat.zero_le _
  | cons a l ih =>
    have hn := List.nodup_cons.mp h
    have ha := hs a (List.mem_cons_self ..)
    have := ih hn.2 (l' := l'.erase a) fun x hx => (List.mem_erase_of_ne (fun e : x = a => hn.1 (by rw [← e]; exact hx))).mpr (hs x (List.mem_cons_of_mem _ hx))
    rw [List.length_erase_of_mem ha] at this
    have : 0 < l'.length := List.length_pos_of_mem ha
    simp only [List.length_cons]
    omega
/-! dicts with texts as keys -/
def getA {α : Type} (l : List (Str × α)) (s : Str) : Option α := (l.find? fun p => decide (p.1 = s)).map (·.2)
def putA {α : Type} (l : List (Str × α)) (s : Str) (v : α) : List (Str × α) := if (l.any fun p => decide (p.1 = s)) = true then l.map (fun p => if p.1 = s then (p.1, v) else p) else l ++ [(s, v)]
abbrev kvI (l : List (Str × Int)) : List (Key × V) := l.map fun p => (.inr p.1, .int p.2)
theorem valV_kvI (l : List (Str × Int)) (s : Str) : valV (kvI l) (.inr s) = (getA l s).map V.int := by
  unfold valV getA kvI
  induction l with
  | nil => rfl
  | cons p l ih =>
    rw [List.map_cons, List.find?_cons, List.find?_cons]
    by_cases h : p.1 = s
    · subst h
      simp
    · have h1 : decide (p.1 = s) = false := decide_eq_false h
      have h2 : decide ((Sum.inr p.1 : Key) = .inr s) = false := decide_eq_false fun z => h (Sum.inr.inj z)
      simp only [h1, h2]
      exact ih
theorem any_kvI (l : List (Str × Int)) (s : Str) : ((kvI l).any fun kv => decide (kv.1 = .inr s)) = (l.any fun p => decide (p.1 = s)) := by
  unfold kvI
  rw [List.any_map]
  congr 1
  funext p
  by_cases h : p.1 = s
  · subst h; simp
  · show decide ((Sum.inr p.1 : Key) = .inr s) = decide (p.1 = s)
    rw [decide_eq_false h, decide_eq_false fun z => h (Sum.inr.inj z)]
theorem putK_kvI (l : List (Str × Int)) (s : Str) (i : Int) : putK (kvI l) (.inr s) (.int i) = kvI (putA l s i) := by
  unfold putK putA
  rw [any_kvI]
  split
  · unfold kvI
    rw [List.map_map, List.map_map]
    refine List.map_congr_left fun p _ => ?_
    show (if (Sum.inr p.1 : Key) = .inr s then _ else _) = _
    by_cases h : p.1 = s
    · subst h; simp
    · rw [if_neg fun z => h (Sum.inr.inj z)]
      show _ = (Sum.inr (if p.1 = s then (p.1, i) else p).1, V.int (if p.1 = s then (p.1, i) else p).2)
      rw [if_neg h]
  · unfold kvI
    rw [List.map_append]
    rfl
theorem getA_isSome {α : Type} (l : List (Str × α)) (s : Str) : (getA l s).isSome = true ↔ s ∈ l.map (·.1) := by
  unfold getA
  rw [Option.isSome_map, List.find?_isSome]
  simp only [decide_eq_true_eq, List.mem_map]
theorem putA_keys {α : Type} (l : List (Str × α)) (s : Str) (v : α) (h : s ∈ l.map (·.1)) : (putA l s v).map (·.1) = l.map (·.1) := by
  unfold putA
  rw [if_pos]
  · rw [List.map_map]
    refine List.map_congr_left fun p _ => ?_
    show (if p.1 = s then (p.1, v) else p).1 = p.1
    split <;> rfl
  · rw [List.any_eq_true]
    obtain ⟨p, hp, e⟩ := List.mem_map.mp h
    exact ⟨p, hp, decide_eq_true e⟩
theorem putA_new {α : Type} (l : List (Str × α)) (s : Str) (v : α) (h : s ∉ l.map (·.1)) : putA l s v = l ++ [(s, v)] := by
  unfold putA
  rw [if_neg]
  intro z
  rw [List.any_eq_true] at z
  obtain ⟨p, hp, e⟩ := z
  exact h (List.mem_map.mpr ⟨p, hp, of_decide_eq_true e⟩)
theorem putA_length {α : Type} (l : List (Str × α)) (s : Str) (v : α) (h : s ∈ l.map (·.1)) : (putA l s v).length = l.length := by
  have := congrArg List.length (putA_keys l s v h)
  simpa using this
def addA (l : List (Str × Int)) (s : Str) (i : Int) : List (Str × Int) := putA l s ((getA l s).getD 0 + i)
/-- what some needs lead to, by what those ahead lead to -/
def addAll (m : Int) (f : List (Str × Int)) (more : List (Str × Int)) : List (Str × Int) := more.foldl (fun f p => addA f p.1 (m * p.2)) f
def needStep (ls : List (Str × List (Str × Int))) (f : List (Str × Int)) (p : Str × Int) : List (Str × Int) := addAll p.2 (addA f p.1 p.2) ((getA ls p.1).getD [])
def ledRaw (names : List Str) (ls : List (Str × List (Str × Int))) (needs : List (Str × Int)) : List (Str × Int) := needs.foldl (needStep ls) (names.map fun s => (s, 0))
def ledTo (names : List Str) (ls : List (Str × List (Str × Int))) (needs : List (Str × Int)) : List (Str × Int) := (ledRaw names ls needs).filter fun p => decide (0 < p.2)
/-- what each part of a book leads to -/
def ledStep (ls : List (Str × List (Str × Int))) (r : PRow) : List (Str × List (Str × Int)) := ls ++ [(r.name, ledTo (ls.map (·.1) ++ [r.name]) ls r.needs)]
def ledOf (rs : List PRow) : List (Str × List (Str × Int)) := rs.foldl ledStep []
theorem ledOf_snoc (rs : List PRow) (r : PRow) : ledOf (rs ++ [r]) = ledStep (ledOf rs) r := by
  unfold ledOf
  rw [List.foldl_append]
  rfl
theorem ledOf_names (rs : List PRow) : (ledOf rs).map (·.1) = rs.map (·.name) := by
  suffices h : ∀ (rs : List PRow) (ls : List (Str × List (Str × Int))), (rs.foldl ledStep ls).map (·.1) = ls.map (·.1) ++ rs.map (·.name) from h rs []
  intro rs
  induction rs with
  | nil => intro ls; simp
  | cons r rs ih =>
    intro ls
    rw [List.foldl_cons, ih]
    simp [ledStep]
/-- a book that can be -/
structure GoodBook (rs : List PRow) : Prop where
  len : rs.length ≤ 12
  row : ∀ i r, rs[i]? = some r → GoodRow ((rs.take i).map (·.name)) r
  led : ∀ p ∈ ledOf rs, (p.2.map (·.2)).sum ≤ 200
end PM

/-! books of parts in the heap -/
namespace PM
open PySem PySem.Spec PyProof.Rows L2 WK
section
variable {K : PySem.W.Frag} {σ : L2.St} {H B : Hp} {F : Ent} {L : Led} {gs : TGs} {v : V} {QG : L2.St → Hp → Prop}
theorem r_gtupRow {r : PRow} (S : Ok F B L H) (h : Dp K B v (encRow r)) (k : ∀ v2 v3, Dp K B v2 (.tuple (r.needs.map encNeed)) → Dp K B v3 (.tuple (r.steps.map encStep)) → gs [.str r.name, v2, v3, .int r.lot, .int r.lead] σ H QG) : gTup K 5 gs v σ H QG :=
  r_gtupD S h rfl fun vs ha => by
    obtain ⟨v1, _, rfl, h1, ha⟩ := ha.cons_inv
    obtain ⟨v2, _, rfl, h2, ha⟩ := ha.cons_inv
    obtain ⟨v3, _, rfl, h3, ha⟩ := ha.cons_inv
    obtain ⟨v4, _, rfl, h4, ha⟩ := ha.cons_inv
    obtain ⟨v5, _, rfl, h5, ha⟩ := ha.cons_inv
    obtain rfl := ha.nil_inv
    obtain rfl := h1.str_inv
    obtain rfl := h4.int_inv
    obtain rfl := h5.int_inv
    exact k v2 v3 h2 h3
end
/-- what the parts lead to: frozen dicts -/
inductive LedKV (B : Hp) : List (Key × V) → List (Str × List (Str × Int)) → Prop
  | nil : LedKV B [] []
  | cons {s d od m kvs ls} : B d = some (.frz od (.dK (kvI m))) → LedKV B kvs ls → LedKV B ((.inr s, .ref d) :: kvs) ((s, m) :: ls)
inductive RowKV (K : PySem.W.Frag) (B : Hp) : List (Key × V) → List PRow → Prop
  | nil : RowKV K B [] []
  | cons {v r kvs rs} : Dp K B v (encRest r) → RowKV K B kvs rs → RowKV K B ((.inr r.name, v) :: kvs) (r :: rs)
section
variable {K : PySem.W.Frag} {B B' : Hp} {kvs : List (Key × V)} {ls : List (Str × List (Str × Int))} {rs : List PRow}
theorem LedKV.up (e : Ex B B') (h : LedKV B kvs ls) : LedKV B' kvs ls := by
  induction h with
  | nil => exact .nil
  | cons h _ ih => exact .cons (e _ _ h) ih
theorem RowKV.up (e : Ex B B') (h : RowKV K B kvs rs) : RowKV K B' kvs rs := by
  induction h with
  | nil => exact .nil
  | cons h _ ih => exact .cons (h.up e) ih
theorem LedKV.keys (h : LedKV B kvs ls) : kvs.map (·.1) = ls.map fun p => .inr p.1 := by
  induction h with
  | nil => rfl
  | cons _ _ ih => simp [ih]
theorem RowKV.keys (h : RowKV K B kvs rs) : kvs.map (·.1) = (rs.map (·.name)).map Sum.inr := by
  induction h with
  | nil => rfl
  | cons _ _ ih => simp only [List.map_cons, ih]
theorem LedKV.snoc {s : Str} {d : Addr} {od : Obj} {m : List (Str × Int)} (h : LedKV B kvs ls) (hd : B d = some (.frz od (.dK (kvI m)))) : LedKV B (kvs ++ [(.inr s, .ref d)]) (ls ++ [(s, m)]) := by
  induction h with
  | nil => exact .cons hd .nil
  | cons h _ ih => exact .cons h ih
theorem RowKV.snoc {v : V} {r : PRow} (h : RowKV K B kvs rs) (hv : Dp K B v (encRest r)) : RowKV K B (kvs ++ [(.inr r.name, v)]) (rs ++ [r]) := by
  induction h with
  | nil => exact .cons hv .nil
  | cons h _ ih => exact .cons h ih
theorem LedKV.get {s : Str} {m : List (Str × Int)} (h : LedKV B kvs ls) (e : getA ls s = some m) : ∃ d od, valV kvs (.inr s) = some (.ref d) ∧ B d = some (.frz od (.dK (kvI m))) := by
  induction h with
  | nil => cases e
  | @cons s' d od m' kvs ls hd _ ih =>
    by_cases hs : s' = s
    · subst hs
      have : m' = m := by
        unfold getA at e
        rw [List.find?_cons] at e
        simpa using e
      subst this
      exact ⟨d, od, valV_pos rfl, hd⟩
    · have : getA ls s = some m := by
        unfold getA at e ⊢
        rw [List.find?_cons, show decide ((s', m').1 = s) = false from decide_eq_false hs] at e
        exact e
      obtain ⟨d, od, e1, e2⟩ := ih this
      exact ⟨d, od, by rw [valV_neg (fun z => hs (Sum.inr.inj z))]; exact e1, e2⟩
end
/-! the sums keep their keys -/
theorem addA_keys {f : List (Str × Int)} {s : Str} {i : Int} (h : s ∈ f.map (·.1)) : (addA f s i).map (·.1) = f.map (·.1) := putA_keys f s _ h
theorem addAll_keys {m : Int} {f more : List (Str × Int)} (h : ∀ y ∈ more, y.1 ∈ f.map (·.1)) : (addAll m f more).map (·.1) = f.map (·.1) := by
  unfold addAll
  induction more generalizing f with
  | nil => rfl
  | cons y more ih =>
    rw [List.foldl_cons, ih (f := addA f y.1 (m * y.2))]
    · exact addA_keys (h y (List.mem_cons_self ..))
    · intro z hz
      rw [addA_keys (h y (List.mem_cons_self ..))]
      exact h z (List.mem_cons_of_mem _ hz)
theorem getA_of_mem {α : Type} {l : List (Str × α)} {s : Str} (h : s ∈ l.map (·.1)) : ∃ v, getA l s = some v := Option.isSome_iff_exists.mp ((getA_isSome l s).mpr h)
theorem len_of_keys {α β : Type} {f : List (Str × α)} {g : List (Str × β)} (h : f.map (·.1) = g.map (·.1)) : f.length = g.length := by simpa using congrArg List.length h
theorem needStep_keys {ls : List (Str × List (Str × Int))} {f : List (Str × Int)} {p : Str × Int} (h : p.1 ∈ f.map (·.1)) (hm : ∀ m, getA ls p.1 = some m → ∀ y ∈ m, y.1 ∈ f.map (·.1)) : (needStep ls f p).map (·.1) = f.map (·.1) := by
  unfold needStep
  rw [addAll_keys, addA_keys h]
  intro y hy
  rw [addA_keys h]
  cases e : getA ls p.1 with
  | none => rw [e] at hy; cases hy
  | some m => rw [e] at hy; exact hm m e y hy
theorem needs_keys {ls : List (Str × List (Str × Int))} {f : List (Str × Int)} {ps : List (Str × Int)} (h : ∀ p ∈ ps, p.1 ∈ f.map (·.1)) (hm : ∀ p ∈ ps, ∀ m, getA ls p.1 = some m → ∀ y ∈ m, y.1 ∈ f.map (·.1)) : (ps.foldl (needStep ls) f).map (·.1) = f.map (·.1) := by
  induction ps generalizing f with
  | nil => rfl
  | cons p ps ih =>
    have h1 := needStep_keys (h p (List.mem_cons_self ..)) (hm p (List.mem_cons_self ..))
    rw [List.foldl_cons, ih, h1]
    · intro q hq; rw [h1]; exact h q (List.mem_cons_of_mem _ hq)
    · intro q hq m e y hy; rw [h1]; exact hm q (List.mem_cons_of_mem _ hq) m e y hy
theorem kvI_get {m : List (Str × Int)} {j : Nat} {kv : Key × V} (h : (kvI m)[j]? = some kv) : ∃ y, m[j]? = some y ∧ kv = (.inr y.1, .int y.2) := by
  unfold kvI at h
  rw [List.getElem?_map] at h
  cases e : m[j]? with
  | none => rw [e] at h; cases h
  | some y => rw [e] at h; exact ⟨y, rfl, (Option.some.inj h).symm⟩
theorem foldl_take_succ {α β : Type} {g : β → α → β} {b : β} {l : List α} {i : Nat} {x : α} (h : l[i]? = some x) : (l.take (i + 1)).foldl g b = g ((l.take i).foldl g b) x := by
  rw [List.take_add_one, h, List.foldl_append]; rfl
theorem kvI_keys (m : List (Str × Int)) : (kvI m).map (·.1) = (m.map (·.1)).map Sum.inr := by
  unfold kvI
  rw [List.map_map, List.map_map]; rfl
/-- a dict's row by its number -/
def vInt (c : Int → Bool) (kv : Key × V) : Bool := match kv.2 with | .int i => c i | _ => false
theorem kvI_filter (m : List (Str × Int)) (c : Int → Bool) : (kvI m).filter (vInt c) = kvI (m.filter fun p => c p.2) := by
  unfold kvI
  rw [List.filter_map]; rfl
abbrev fldsP (r l : Addr) : List (Str × V) := [("rows", .ref r), ("led", .ref l)]
theorem getA_mem {α : Type} {l : List (Str × α)} {s : Str} {v : α} (h : getA l s = some v) : (s, v) ∈ l := by
  unfold getA at h
  obtain ⟨p, hp, e⟩ := Option.map_eq_some_iff.mp h
  have h1 := List.mem_of_find?_eq_some hp
  have h2 := List.find?_some hp
  have : p.1 = s := of_decide_eq_true h2
  rw [← this, ← e]
  exact h1
theorem ledOf_take {rs : List PRow} {i : Nat} {r : PRow} (h : rs[i]? = some r) : ledOf (rs.take (i + 1)) = ledStep (ledOf (rs.take i)) r := foldl_take_succ h
theorem ledRaw_keys {names : List Str} {ls : List (Str × List (Str × Int))} {needs : List (Str × Int)} (h : ∀ x ∈ needs, x.1 ∈ names ∧ ∀ m, getA ls x.1 = some m → ∀ y ∈ m, y.1 ∈ names) : (ledRaw names ls needs).map (·.1) = names := by
  have e0 : (names.map fun s => ((s, 0) : Str × Int)).map (·.1) = names := by rw [List.map_map]; exact List.map_id' _
  unfold ledRaw
  rw [needs_keys, e0]
  · intro y hy; rw [e0]; exact (h y hy).1
  · intro y hy m em z hz; rw [e0]; exact (h y hy).2 m em z hz
theorem ledTo_in {names : List Str} {ls : List (Str × List (Str × Int))} {needs : List (Str × Int)} (h : ∀ x ∈ needs, x.1 ∈ names ∧ ∀ m, getA ls x.1 = some m → ∀ y ∈ m, y.1 ∈ names) : ∀ y ∈ ledTo names ls needs, y.1 ∈ names := by
  intro y hy
  rw [← ledRaw_keys h]
  exact List.mem_map.mpr ⟨y, (List.mem_filter.mp hy).1, rfl⟩
section
variable {rs : List PRow}
theorem take_succ_map {i : Nat} {r : PRow} (h : rs[i]? = some r) : (rs.take (i + 1)).map (·.name) = (rs.take i).map (·.name) ++ [r.name] := by
  rw [List.take_add_one, h, List.map_append]; rfl
theorem GoodBook.nodup (G : GoodBook rs) (i : Nat) : ((rs.take i).map (·.name)).Nodup := by
  induction i with
  | zero => exact List.nodup_nil
  | succ i ih =>
    cases e : rs[i]? with
    | none =>
      have : rs.length ≤ i := List.getElem?_eq_none_iff.mp e
      rw [List.take_of_length_le (by omega)]
      rw [List.take_of_length_le this] at ih
      exact ih
    | some r =>
      rw [take_succ_map e]
      refine List.nodup_append.mpr ⟨ih, List.nodup_cons.mpr ⟨(by simp), List.nodup_nil⟩, ?_⟩
      intro a ha b hb hab
      rw [List.mem_singleton] at hb
      subst hb hab
      exact (G.row i r e).new ha
theorem GoodBook.known (G : GoodBook rs) (i : Nat) : ∀ p ∈ ledOf (rs.take i), ∀ y ∈ p.2, y.1 ∈ (rs.take i).map (·.name) := by
  induction i with
  | zero => intro p hp; cases hp
  | succ i ih =>
    cases e : rs[i]? with
    | none =>
      have : rs.length ≤ i := List.getElem?_eq_none_iff.mp e
      rw [List.take_of_length_le (show rs.length ≤ i + 1 by omega)]
      rw [List.take_of_length_le this] at ih
      exact ih
    | some r =>
      rw [take_succ_map e, ledOf_take e]
      intro p hp y hy
      rcases List.mem_append.mp hp with hp | hp
      · exact List.mem_append_left _ (ih p hp y hy)
      · rw [List.mem_singleton] at hp
        subst hp
        rw [← ledOf_names]
        refine ledTo_in (fun x hx => ⟨?_, fun m hm z hz => ?_⟩) y hy
        · rw [ledOf_names]; exact List.mem_append_left _ ((G.row i r e).known x hx)
        · rw [ledOf_names]; exact List.mem_append_left _ (ih _ (getA_mem hm) z hz)
theorem GoodBook.needs (G : GoodBook rs) {i : Nat} {r : PRow} (e : rs[i]? = some r) : ∀ x ∈ r.needs, x.1 ∈ (rs.take i).map (·.name) ++ [r.name] ∧ (1 ≤ x.2 ∧ x.2 ≤ 9) ∧ ∃ m, getA (ledOf (rs.take i)) x.1 = some m ∧ ∀ y ∈ m, y.1 ∈ (rs.take i).map (·.name) ++ [r.name] := by
  intro x hx
  have R := G.row i r e
  obtain ⟨m, hm⟩ := getA_of_mem (l := ledOf (rs.take i)) (s := x.1) (by rw [ledOf_names]; exact R.known x hx)
  exact ⟨List.mem_append_left _ (R.known x hx), R.many x hx, m, hm, fun y hy => List.mem_append_left _ (G.known i _ (getA_mem hm) y hy)⟩
theorem ledOf_sub (i : Nat) : ∀ p ∈ ledOf (rs.take i), p ∈ ledOf rs := by
  suffices h : ∀ (xs : List PRow) (ls : List (Str × List (Str × Int))), ∀ p ∈ ls, p ∈ xs.foldl ledStep ls by
    intro p hp
    have := h (rs.drop i) (ledOf (rs.take i)) p hp
    unfold ledOf at this ⊢
    rw [← List.foldl_append, List.take_append_drop] at this
    exact this
  intro xs
  induction xs with
  | nil => intro ls p hp; exact hp
  | cons r xs ih => intro ls p hp; exact ih _ p (List.mem_append_left _ hp)
end
theorem kvI_vals (m : List (Str × Int)) : (kvI m).map (·.2) = (m.map (·.2)).map V.int := by
  unfold kvI
  rw [List.map_map, List.map_map]; rfl
theorem zipIdx_at {α : Type} {l : List α} {i : Nat} {y : α × Nat} (h : l.zipIdx[i]? = some y) : l[i]? = some y.1 ∧ y.2 = i := by
  rw [List.getElem?_zipIdx] at h
  cases e : l[i]? with
  | none => rw [e] at h; cases h
  | some x =>
    rw [e] at h
    have := Option.some.inj h
    subst this
    exact ⟨rfl, by simp⟩
theorem ledTo_sub {names : List Str} {ls : List (Str × List (Str × Int))} {needs : List (Str × Int)} (h : ∀ x ∈ needs, x.1 ∈ names ∧ ∀ m, getA ls x.1 = some m → ∀ y ∈ m, y.1 ∈ names) : ((ledTo names ls needs).map (·.1)).Sublist names := by
  have h1 : ((ledTo names ls needs).map (·.1)).Sublist ((ledRaw names ls needs).map (·.1)) := List.filter_sublist.map _
  rw [ledRaw_keys h] at h1
  exact h1
theorem GoodBook.led_sub {rs : List PRow} (G : GoodBook rs) (i : Nat) : ∀ p ∈ ledOf (rs.take i), (p.2.map (·.1)).Sublist ((rs.take i).map (·.name)) := by
  induction i with
  | zero => intro p hp; cases hp
  | succ i ih =>
    cases e : rs[i]? with
    | none =>
      have : rs.length ≤ i := List.getElem?_eq_none_iff.mp e
      rw [List.take_of_length_le (show rs.length ≤ i + 1 by omega)]
      rw [List.take_of_length_le this] at ih
      exact ih
    | some r =>
      rw [take_succ_map e, ledOf_take e]
      intro p hp
      rcases List.mem_append.mp hp with hp | hp
      · exact (ih p hp).trans (List.sublist_append_left _ _)
      · rw [List.mem_singleton] at hp
        subst hp
        have := ledTo_sub (names := (ledOf (rs.take i)).map (·.1) ++ [r.name]) (ls := ledOf (rs.take i)) (needs := r.needs) (fun x hx => ⟨by rw [ledOf_names]; exact List.mem_append_left _ ((G.row i r e).known x hx), fun m hm z hz => by rw [ledOf_names]; exact List.mem_append_left _ (G.known i _ (getA_mem hm) z hz)⟩)
        rw [ledOf_names] at this
        rw [ledOf_names]
        exact this
theorem GoodBook.led_all {rs : List PRow} (G : GoodBook rs) : ∀ p ∈ ledOf rs, (p.2.map (·.1)).Sublist (rs.map (·.name)) := by
  have := G.led_sub rs.length
  rw [List.take_length] at this
  exact this
theorem GoodBook.led_len {rs : List PRow} (G : GoodBook rs) {p : Str × List (Str × Int)} (h : p ∈ ledOf rs) : p.2.length ≤ 12 := by
  have h1 := (G.led_all p h).length_le
  have := G.len
  rw [List.length_map, List.length_map] at h1
  omega
end PM

/-! a book as text -/
namespace PM
open PySem L2 WK
abbrev spc : Str := " "
abbrev nlS : Str := "\n"
def partLine (r : PRow) : Str := Txt.join spc ["part", r.name, numS r.lot, numS r.lead]
def needLine (x : Str × Int) : Str := Txt.join spc ["need", x.1, numS x.2]
def stepLine (x : Int × Int) : Str := Txt.join spc ["step", numS x.1, numS x.2]
def rowLines (r : PRow) : List Str := partLine r :: (r.needs.map needLine ++ r.steps.map stepLine)
def textOf (rs : List PRow) : Str := Txt.join nlS (rs.flatMap rowLines)
theorem numS_len : ∀ k : Fin 100, (numS (k.val : Int)).length ≤ 2 := by decide +kernel
theorem numS_le {i : Int} (h0 : 0 ≤ i) (h1 : i < 100) : (numS i).length ≤ 2 := by
  have := numS_len ⟨i.toNat, by omega⟩
  rwa [show ((i.toNat : Nat) : Int) = i by omega] at this
theorem log2_small {i : Int} (h0 : 0 ≤ i) (h1 : i < 100) : i.natAbs.log2 < 1920 := by
  have h2 : i.natAbs < 2 ^ 1920 := Nat.lt_of_lt_of_le (show i.natAbs < 2 ^ 7 by omega) (Nat.pow_le_pow_right (by decide) (by decide))
  by_cases hz : i.natAbs = 0
  · rw [hz]; decide
  · exact (Nat.log2_lt hz).mpr h2
theorem join3_len {a b c : Str} {n : Nat} (h : a.length + b.length + c.length ≤ n) : (Txt.join spc [a, b, c]).length ≤ n + 3 := by
  have h1 := StrLaws.join_length_le spc [a, b, c]
  rw [← StrLaws.glued_eq_join] at h1; change (Txt.join spc _).length ≤ _ at h1
  simp only [List.map_cons, List.map_nil, List.sum_cons, List.sum_nil, List.length_cons, List.length_nil] at h1
  have : spc.length = 1 := rfl
  rw [this] at h1
  omega
theorem join4_len {a b c d : Str} {n : Nat} (h : a.length + b.length + c.length + d.length ≤ n) : (Txt.join spc [a, b, c, d]).length ≤ n + 4 := by
  have h1 := StrLaws.join_length_le spc [a, b, c, d]
  rw [← StrLaws.glued_eq_join] at h1; change (Txt.join spc _).length ≤ _ at h1
  simp only [List.map_cons, List.map_nil, List.sum_cons, List.sum_nil, List.length_cons, List.length_nil] at h1
  have : spc.length = 1 := rfl
  rw [this] at h1
  omega
theorem name_len {z : Str} (h : isNameM z = true) : z.length ≤ 8 := by
  unfold isNameM at h
  simp only [Bool.and_eq_true, decide_eq_true_eq] at h
  omega
end PM
namespace PM
open PySem L2 WK
section
variable {names : List Str} {r : PRow}
theorem part_sum (R : GoodRow names r) : ((["part", r.name, numS r.lot, numS r.lead] : List Str).map (·.length)).sum + ([("part" : Str), r.name, numS r.lot, numS r.lead] : List Str).length * spc.length ≤ 16777216 := by
  have h1 := name_len R.nm
  have h2 := numS_le (i := r.lot) (by have := R.lot; omega) (by have := R.lot; omega)
  have h3 := numS_le (i := r.lead) (by have := R.lead; omega) (by have := R.lead; omega)
  simp only [List.map_cons, List.map_nil, List.sum_cons, List.sum_nil, List.length_cons, List.length_nil]
  have e1 : ("part" : Str).length = 4 := rfl
  have e2 : spc.length = 1 := rfl
  omega
theorem lines_len (R : GoodRow names r) (hn : r.needs.length ≤ 12) : (rowLines r).length ≤ 18 := by
  have := R.few
  unfold rowLines
  rw [List.length_cons, List.length_append, List.length_map, List.length_map]
  omega
end
theorem flat_len {rs : List PRow} (h : ∀ r ∈ rs, (rowLines r).length ≤ 18) : (rs.flatMap rowLines).length ≤ 18 * rs.length := by
  induction rs with
  | nil => exact Nat.le_refl _
  | cons r rs ih =>
    have h1 := h r (.head _)
    have h2 := ih fun x hx => h x (.tail _ hx)
    rw [List.flatMap_cons, List.length_append, List.length_cons]
    omega
theorem GoodBook.lines18 {rs : List PRow} (G : GoodBook rs) : ∀ r ∈ rs, (rowLines r).length ≤ 18 := by
  intro r hr
  obtain ⟨j, hj⟩ := List.getElem?_of_mem hr
  have R := G.row j r hj
  refine lines_len R ?_
  have := nodup_sub_length R.nd (l' := (rs.take j).map (·.name)) (by
    intro x hx
    obtain ⟨y, hy, rfl⟩ := List.mem_map.mp hx
    exact R.known y hy)
  rw [List.length_map, List.length_map, List.length_take] at this
  have := G.len
  omega
theorem need_sum {rs : List PRow} {i : Nat} {r : PRow} {x : Str × Int} (hk : x.1 ∈ (rs.take i).map (·.name)) (m1 : 1 ≤ x.2) (m2 : x.2 ≤ 9) (G : GoodBook rs) (_ : rs[i]? = some r) : ((["need", x.1, numS x.2] : List Str).map (·.length)).sum + ([("need" : Str), x.1, numS x.2] : List Str).length * spc.length ≤ 16777216 := by
  obtain ⟨q, hq, e⟩ := List.mem_map.mp hk
  obtain ⟨j, hj⟩ := List.getElem?_of_mem (List.mem_of_mem_take hq)
  have h1 := name_len (G.row j q hj).nm
  rw [e] at h1
  have h2 := numS_le (i := x.2) (by omega) (by omega)
  simp only [List.map_cons, List.map_nil, List.sum_cons, List.sum_nil, List.length_cons, List.length_nil]
  have e1 : ("need" : Str).length = 4 := rfl
  have e2 : spc.length = 1 := rfl
  omega
theorem step_sum {x : Int × Int} (h : (0 ≤ x.1 ∧ x.1 < 6) ∧ 1 ≤ x.2 ∧ x.2 ≤ 99) : ((["step", numS x.1, numS x.2] : List Str).map (·.length)).sum + ([("step" : Str), numS x.1, numS x.2] : List Str).length * spc.length ≤ 16777216 := by
  have h1 := numS_le (i := x.1) (by omega) (by omega)
  have h2 := numS_le (i := x.2) (by omega) (by omega)
  simp only [List.map_cons, List.map_nil, List.sum_cons, List.sum_nil, List.length_cons, List.length_nil]
  have e1 : ("step" : Str).length = 4 := rfl
  have e2 : spc.length = 1 := rfl
  omega
theorem line3 {a b c : Str} (ha : a.length ≤ 4) (hb : b.length ≤ 8) (hc : c.length ≤ 2) : (Txt.join spc [a, b, c]).length ≤ 20 := Nat.le_trans (join3_len (n := 14) (by omega)) (by decide)
theorem GoodBook.line_len {rs : List PRow} (G : GoodBook rs) : ∀ y ∈ rs.flatMap rowLines, y.length ≤ 20 := by
  intro y hy
  obtain ⟨r, hr, hy⟩ := List.mem_flatMap.mp hy
  obtain ⟨j, hj⟩ := List.getElem?_of_mem hr
  have R := G.row j r hj
  rcases List.mem_cons.mp hy with rfl | hy
  · have h1 := name_len R.nm
    have h2 := numS_le (i := r.lot) (by have := R.lot; omega) (by have := R.lot; omega)
    have h3 := numS_le (i := r.lead) (by have := R.lead; omega) (by have := R.lead; omega)
    have e1 : ("part" : Str).length = 4 := rfl
    exact Nat.le_trans (join4_len (n := 16) (by omega)) (by decide)
  · rcases List.mem_append.mp hy with hy | hy
    · obtain ⟨x, hx, rfl⟩ := List.mem_map.mp hy
      obtain ⟨q, hq, e⟩ := List.mem_map.mp (R.known x hx)
      obtain ⟨i, hi⟩ := List.getElem?_of_mem (List.mem_of_mem_take hq)
      have h1 := name_len (G.row i q hi).nm
      rw [e] at h1
      have := R.many x hx
      exact line3 (by decide) h1 (numS_le (by omega) (by omega))
    · obtain ⟨x, hx, rfl⟩ := List.mem_map.mp hy
      obtain ⟨⟨m1, m2⟩, m3, m4⟩ := R.steps x hx
      exact line3 (by decide) (Nat.le_trans (numS_le (by omega) (by omega)) (by decide)) (numS_le (by omega) (by omega))
theorem sum_len {ys : List Str} {n : Nat} (h : ∀ y ∈ ys, y.length ≤ n) : (ys.map (·.length)).sum ≤ n * ys.length := by
  induction ys with
  | nil => exact Nat.le_refl _
  | cons y ys ih =>
    have h1 := h y (.head _)
    have h2 := ih fun x hx => h x (.tail _ hx)
    rw [List.map_cons, List.sum_cons, List.length_cons, Nat.mul_succ]
    omega
theorem text_sum {rs : List PRow} (G : GoodBook rs) : ((rs.flatMap rowLines).map (·.length)).sum + (rs.flatMap rowLines).length * nlS.length ≤ 16777216 := by
  have h1 := sum_len G.line_len
  have h2 := flat_len G.lines18
  have := G.len
  have e : nlS.length = 1 := rfl
  rw [e]
  omega
end PM
namespace PM
open PySem L2 WK
abbrev figs : Str := "0123456789"
theorem num_fact : ∀ k : Fin 100, (1 ≤ (numS (k.val : Int)).length ∧ (numS (k.val : Int)).length ≤ 2) ∧ Txt.stripChars (numS (k.val : Int)) figs = "" ∧ PySem.intText? (numS (k.val : Int)) = some (k.val : Int) ∧ ((numS (k.val : Int)).cps.toList.getD 0 0 = 48 → numS (k.val : Int) = "0") := by decide +kernel
end PM

/-! a book's text, read again -/
namespace PM
open PySem L2 WK
inductive Tg where
  | part (z : Str) (i j : Int)
  | need (z : Str) (i : Int)
  | step (i j : Int)
def Tg.words : Tg → List Str
  | .part z i j => ["part", z, numS i, numS j]
  | .need z i => ["need", z, numS i]
  | .step i j => ["step", numS i, numS j]
def Tg.line (t : Tg) : Str := Txt.join spc t.words
def Tg.ok : Tg → Prop
  | .part z i j => isNameM z = true ∧ (0 ≤ i ∧ i < 100) ∧ (0 ≤ j ∧ j < 100)
  | .need z i => isNameM z = true ∧ (0 ≤ i ∧ i < 100)
  | .step i j => (0 ≤ i ∧ i < 100) ∧ (0 ≤ j ∧ j < 100)
def rowTags (r : PRow) : List Tg := .part r.name r.lot r.lead :: (r.needs.map (fun x => .need x.1 x.2) ++ r.steps.map fun x => .step x.1 x.2)
theorem tags_lines (r : PRow) : (rowTags r).map Tg.line = rowLines r := by
  unfold rowTags rowLines
  rw [List.map_cons, List.map_append, List.map_map, List.map_map]
  rfl
def bookTags (rs : List PRow) : List Tg := rs.flatMap rowTags
theorem book_lines (rs : List PRow) : (bookTags rs).map Tg.line = rs.flatMap rowLines := by
  unfold bookTags
  induction rs with
  | nil => rfl
  | cons r rs ih => rw [List.flatMap_cons, List.flatMap_cons, List.map_append, ih, tags_lines]
abbrev RdS := Option (List PRow × PRow)
def rd1 : RdS → Tg → RdS
  | none, .part z i j => some ([], ⟨z, [], [], i, j⟩)
  | some (qs, r), .part z i j => some (qs ++ [r], ⟨z, [], [], i, j⟩)
  | some (qs, r), .need z i => some (qs, { r with needs := r.needs ++ [(z, i)] })
  | some (qs, r), .step i j => some (qs, { r with steps := r.steps ++ [(i, j)] })
  | none, _ => none
def rdRows : RdS → List PRow
  | none => []
  | some (qs, r) => qs ++ [r]
def SOk : RdS → Tg → Prop
  | _, .part _ _ _ => True
  | s, .need _ _ => ∃ qs r, s = some (qs, r) ∧ r.steps = []
  | s, .step _ _ => ∃ qs r, s = some (qs, r)
def rdV : RdS → List Tg → Prop
  | _, [] => True
  | s, t :: ts => SOk s t ∧ rdV (rd1 s t) ts
theorem rd_steps (ss : List (Int × Int)) (qs : List PRow) (r : PRow) (ts : List Tg) (h : rdV (some (qs, { r with steps := r.steps ++ ss })) ts) :
    rdV (some (qs, r)) ((ss.map fun x => Tg.step x.1 x.2) ++ ts) ∧ ((ss.map fun x => Tg.step x.1 x.2).foldl rd1 (some (qs, r))) = some (qs, { r with steps := r.steps ++ ss }) := by
  induction ss generalizing r with
  | nil => rw [List.append_nil] at h; exact ⟨h, by rw [List.append_nil]; rfl⟩
  | cons x ss ih =>
    have e : r.steps ++ x :: ss = (r.steps ++ [x]) ++ ss := by simp
    rw [e] at h
    have := ih { r with steps := r.steps ++ [x] } h
    refine ⟨⟨⟨qs, r, rfl⟩, this.1⟩, ?_⟩
    rw [e]
    exact this.2
theorem rd_needs (ns : List (Str × Int)) (qs : List PRow) (r : PRow) (hr : r.steps = []) (ts : List Tg) (h : rdV (some (qs, { r with needs := r.needs ++ ns })) ts) :
    rdV (some (qs, r)) ((ns.map fun x => Tg.need x.1 x.2) ++ ts) ∧ ((ns.map fun x => Tg.need x.1 x.2).foldl rd1 (some (qs, r))) = some (qs, { r with needs := r.needs ++ ns }) := by
  induction ns generalizing r with
  | nil => rw [List.append_nil] at h; exact ⟨h, by rw [List.append_nil]; rfl⟩
  | cons x ns ih =>
    have e : r.needs ++ x :: ns = (r.needs ++ [x]) ++ ns := by simp
    rw [e] at h
    have := ih { r with needs := r.needs ++ [x] } hr h
    refine ⟨⟨⟨qs, r, rfl, hr⟩, this.1⟩, ?_⟩
    rw [e]
    exact this.2
theorem rd_row (s : RdS) (r : PRow) (ts : List Tg) (h : rdV (some (rdRows s, r)) ts) : rdV s (rowTags r ++ ts) ∧ (rowTags r).foldl rd1 s = some (rdRows s, r) := by
  have e : rd1 s (.part r.name r.lot r.lead) = some (rdRows s, ⟨r.name, [], [], r.lot, r.lead⟩) := by
    cases s with
    | none => rfl
    | some p => rfl
  have h2 := rd_steps r.steps (rdRows s) ⟨r.name, r.needs, [], r.lot, r.lead⟩ ts h
  have h3 := rd_needs r.needs (rdRows s) ⟨r.name, [], [], r.lot, r.lead⟩ rfl (r.steps.map (fun x => Tg.step x.1 x.2) ++ ts) h2.1
  unfold rowTags
  refine ⟨⟨True.intro, ?_⟩, ?_⟩
  · rw [e]
    show rdV _ ((_ ++ _) ++ ts)
    rw [List.append_assoc]
    exact h3.1
  · rw [List.foldl_cons, e, List.foldl_append]
    have h4 := h3.2
    rw [show ((⟨r.name, [], [], r.lot, r.lead⟩ : PRow).needs ++ r.needs) = r.needs from rfl] at h4
    rw [h4]
    exact h2.2
theorem rd_book : ∀ (rs : List PRow) (s : RdS), rdV s (bookTags rs) ∧ rdRows ((bookTags rs).foldl rd1 s) = rdRows s ++ rs
  | [], s => ⟨True.intro, by rw [List.append_nil]; rfl⟩
  | r :: rs, s => by
    have ih := rd_book rs (some (rdRows s, r))
    have h := rd_row s r _ ih.1
    refine ⟨h.1, ?_⟩
    show rdRows ((rowTags r ++ bookTags rs).foldl rd1 s) = _
    rw [List.foldl_append, h.2, ih.2]
    show (rdRows s ++ [r]) ++ rs = _
    rw [List.append_assoc]
    rfl
theorem rd_at : ∀ {ts : List Tg} {s : RdS} {k : Nat} {t : Tg}, rdV s ts → ts[k]? = some t → SOk ((ts.take k).foldl rd1 s) t
  | [], _, _, _, _, h => by simp at h
  | t :: ts, s, 0, u, v, h => by
    simp at h
    subst h
    exact v.1
  | t :: ts, s, k + 1, u, v, h => rd_at (ts := ts) v.2 (by simpa using h)
def rdSize : RdS → Nat
  | none => 0
  | some (qs, r) => qs.length + r.needs.length + r.steps.length + 1
theorem rd1_size (s : RdS) (t : Tg) : rdSize (rd1 s t) ≤ rdSize s + 1 := by
  cases s with
  | none =>
    cases t with
    | part z i j => exact Nat.le_refl _
    | need z i => exact Nat.zero_le _
    | step i j => exact Nat.zero_le _
  | some p =>
    obtain ⟨qs, r⟩ := p
    cases t with
    | part z i j => show (qs ++ [r]).length + 0 + 0 + 1 ≤ qs.length + r.needs.length + r.steps.length + 1 + 1; rw [List.length_append]; simp; omega
    | need z i => show qs.length + (r.needs ++ [(z, i)]).length + r.steps.length + 1 ≤ qs.length + r.needs.length + r.steps.length + 1 + 1; rw [List.length_append]; simp; omega
    | step i j => show qs.length + r.needs.length + (r.steps ++ [(i, j)]).length + 1 ≤ qs.length + r.needs.length + r.steps.length + 1 + 1; rw [List.length_append]; simp; omega
theorem rd_size (ts : List Tg) (s : RdS) : rdSize (ts.foldl rd1 s) ≤ rdSize s + ts.length := by
  induction ts generalizing s with
  | nil => exact Nat.le_refl _
  | cons t ts ih =>
    have h1 := ih (rd1 s t)
    have h2 := rd1_size s t
    rw [List.foldl_cons, List.length_cons]
    omega
/-! words -/
theorem num_free : ∀ k : Fin 100, 32 ∉ TL.tl (numS (k.val : Int)) ∧ 10 ∉ TL.tl (numS (k.val : Int)) := by decide +kernel
theorem num_free' {i : Int} (h0 : 0 ≤ i) (h1 : i < 100) : 32 ∉ TL.tl (numS i) ∧ 10 ∉ TL.tl (numS i) := by
  have := num_free ⟨i.toNat, by omega⟩
  rwa [show ((i.toNat : Nat) : Int) = i by omega] at this
theorem name_free {z : Str} (h : isNameM z = true) {c : Nat} (hc : c ∉ letters.cps.toList) : c ∉ TL.tl z := by
  unfold isNameM at h
  simp only [Bool.and_eq_true, decide_eq_true_eq, List.all_map, List.all_eq_true] at h
  intro hm
  have := h.2.2 c hm
  simp only [Function.comp, id, decide_eq_true_eq] at this
  exact hc this
theorem words_free {t : Tg} (h : t.ok) : ∀ p ∈ t.words, 32 ∉ TL.tl p ∧ 10 ∉ TL.tl p := by
  have n32 : 32 ∉ letters.cps.toList := by decide +kernel
  have n10 : 10 ∉ letters.cps.toList := by decide +kernel
  cases t with
  | part z i j =>
    obtain ⟨h1, h2, h3⟩ := h
    intro p hp
    simp only [Tg.words, List.mem_cons, List.not_mem_nil, or_false] at hp
    rcases hp with rfl | rfl | rfl | rfl
    · decide +kernel
    · exact ⟨name_free h1 n32, name_free h1 n10⟩
    · exact num_free' h2.1 h2.2
    · exact num_free' h3.1 h3.2
  | need z i =>
    obtain ⟨h1, h2⟩ := h
    intro p hp
    simp only [Tg.words, List.mem_cons, List.not_mem_nil, or_false] at hp
    rcases hp with rfl | rfl | rfl
    · decide +kernel
    · exact ⟨name_free h1 n32, name_free h1 n10⟩
    · exact num_free' h2.1 h2.2
  | step i j =>
    obtain ⟨h2, h3⟩ := h
    intro p hp
    simp only [Tg.words, List.mem_cons, List.not_mem_nil, or_false] at hp
    rcases hp with rfl | rfl | rfl
    · decide +kernel
    · exact num_free' h2.1 h2.2
    · exact num_free' h3.1 h3.2
theorem mem_joinL {c : Nat} {S : List Nat} : ∀ {ps : List (List Nat)}, c ∈ TL.joinL S ps → c ∈ S ∨ ∃ p ∈ ps, c ∈ p
  | [], h => by simp [TL.joinL] at h
  | [p], h => .inr ⟨p, .head _, h⟩
  | p :: q :: r, h => by
    rcases List.mem_append.mp h with h | h
    · exact .inr ⟨p, .head _, h⟩
    · rcases List.mem_append.mp h with h | h
      · exact .inl h
      · rcases mem_joinL h with h | ⟨x, hx, h⟩
        · exact .inl h
        · exact .inr ⟨x, .tail _ hx, h⟩
theorem tl_txtjoin (y : Str) (ps : List Str) : TL.tl (Txt.join y ps) = TL.joinL (TL.tl y) (ps.map TL.tl) := by
  rw [TL.join_eq, TL.tl_join]
theorem line_free {t : Tg} (h : t.ok) : 10 ∉ TL.tl t.line := by
  intro hm
  unfold Tg.line at hm
  rw [tl_txtjoin] at hm
  rcases mem_joinL hm with h1 | ⟨p, hp, h1⟩
  · exact absurd h1 (by decide +kernel)
  · obtain ⟨q, hq, rfl⟩ := List.mem_map.mp hp
    exact (words_free h q hq).2 h1
theorem split_line {t : Tg} (h : t.ok) : Txt.split t.line spc = t.words := by
  unfold Tg.line
  refine TL.split_join (s := 32) (S := []) (by decide +kernel) (by decide +kernel) ?_ fun p hp => (words_free h p hp).1
  cases t <;> exact List.cons_ne_nil _ _
theorem split_text {ts : List Tg} (hne : ts ≠ []) (h : ∀ t ∈ ts, t.ok) : Txt.split (Txt.join nlS (ts.map Tg.line)) nlS = ts.map Tg.line := by
  refine TL.split_join (s := 10) (S := []) (by decide +kernel) (by decide +kernel) (fun e => hne (List.map_eq_nil_iff.mp e)) fun p hp => ?_
  obtain ⟨t, ht, rfl⟩ := List.mem_map.mp hp
  exact line_free (h t ht)
theorem joinL_ne {S : List Nat} {p : List Nat} {ps : List (List Nat)} (h : p ≠ []) : TL.joinL S (p :: ps) ≠ [] := by
  cases ps with
  | nil => exact h
  | cons q r => intro e; exact h (List.append_eq_nil_iff.mp e).1
theorem line_ne (t : Tg) : t.line ≠ "" := by
  intro e
  have h := congrArg TL.tl e
  unfold Tg.line at h
  rw [tl_txtjoin] at h
  cases t <;> exact joinL_ne (by decide +kernel) h
theorem text_ne {ts : List Tg} (hne : ts ≠ []) : Txt.join nlS (ts.map Tg.line) ≠ "" := by
  intro e
  have h := congrArg TL.tl e
  rw [tl_txtjoin] at h
  cases ts with
  | nil => exact hne rfl
  | cons t ts => exact joinL_ne (fun z => line_ne t (TL.ext_tl z)) h
theorem GoodBook.tags {rs : List PRow} (G : GoodBook rs) : ∀ t ∈ bookTags rs, t.ok := by
  intro t ht
  obtain ⟨r, hr, ht⟩ := List.mem_flatMap.mp ht
  obtain ⟨j, hj⟩ := List.getElem?_of_mem hr
  have R := G.row j r hj
  rcases List.mem_cons.mp ht with rfl | ht
  · have := R.lot
    have := R.lead
    exact ⟨R.nm, ⟨by omega, by omega⟩, by omega, by omega⟩
  · rcases List.mem_append.mp ht with ht | ht
    · obtain ⟨x, hx, rfl⟩ := List.mem_map.mp ht
      obtain ⟨q, hq, e⟩ := List.mem_map.mp (R.known x hx)
      obtain ⟨i, hi⟩ := List.getElem?_of_mem (List.mem_of_mem_take hq)
      have h1 := (G.row i q hi).nm
      rw [e] at h1
      have := R.many x hx
      exact ⟨h1, by omega, by omega⟩
    · obtain ⟨x, hx, rfl⟩ := List.mem_map.mp ht
      obtain ⟨⟨m1, m2⟩, m3, m4⟩ := R.steps x hx
      exact ⟨⟨by omega, by omega⟩, by omega, by omega⟩
theorem bookTags_ne {rs : List PRow} (h : rs ≠ []) : bookTags rs ≠ [] := by
  cases rs with
  | nil => exact absurd rfl h
  | cons r rs => exact List.cons_ne_nil _ _
theorem text_tags (rs : List PRow) : textOf rs = Txt.join nlS ((bookTags rs).map Tg.line) := by
  unfold textOf
  rw [book_lines]
theorem GoodBook.text_len {rs : List PRow} (G : GoodBook rs) : (textOf rs).length ≤ 10000 := by
  have h1 := StrLaws.join_length_le nlS (rs.flatMap rowLines)
  rw [← StrLaws.glued_eq_join] at h1; change (Txt.join nlS _).length ≤ _ at h1
  have h2 := sum_len G.line_len
  have h3 := flat_len G.lines18
  have := G.len
  have e : nlS.length = 1 := rfl
  rw [e] at h1
  unfold textOf
  omega
theorem GoodBook.tags_len {rs : List PRow} (G : GoodBook rs) : (bookTags rs).length ≤ 216 := by
  have h3 := flat_len G.lines18
  rw [← book_lines, List.length_map] at h3
  have := G.len
  omega
theorem GoodBook.tag_len {rs : List PRow} (G : GoodBook rs) : ∀ t ∈ bookTags rs, t.line.length ≤ 20 := by
  intro t ht
  refine G.line_len _ ?_
  rw [← book_lines]
  exact List.mem_map.mpr ⟨t, ht, rfl⟩
end PM

/-! a book's text by its rows -/
namespace PM
open PySem L2 WK
theorem joinL_app {S : List Nat} : ∀ {a b : List (List Nat)}, a ≠ [] → b ≠ [] → TL.joinL S (a ++ b) = TL.joinL S a ++ (S ++ TL.joinL S b)
  | [], _, h, _ => absurd rfl h
  | [p], b, _, hb => by
    cases b with
    | nil => exact absurd rfl hb
    | cons q r => rfl
  | p :: q :: r, b, _, hb => by
    show p ++ (S ++ TL.joinL S ((q :: r) ++ b)) = (p ++ (S ++ TL.joinL S (q :: r))) ++ _
    rw [joinL_app (by simp) hb]
    simp only [List.append_assoc]
theorem joinL_flat {α : Type} {S : List Nat} {f : α → List (List Nat)} (hf : ∀ x, f x ≠ []) : ∀ (xs : List α), TL.joinL S (xs.flatMap f) = TL.joinL S (xs.map fun x => TL.joinL S (f x))
  | [] => rfl
  | [x] => by rw [List.flatMap_cons, List.flatMap_nil, List.append_nil]; rfl
  | x :: y :: r => by
    rw [List.flatMap_cons, joinL_app (hf x) (by rw [List.flatMap_cons]; intro e; exact hf y (List.append_eq_nil_iff.mp e).1), joinL_flat hf (y :: r)]
    rfl
theorem rowLines_ne (r : PRow) : rowLines r ≠ [] := List.cons_ne_nil _ _
theorem text_rows (as : List PRow) : Txt.join nlS (as.map fun r => textOf [r]) = textOf as := by
  refine TL.ext_tl ?_
  unfold textOf
  rw [tl_txtjoin, tl_txtjoin, List.map_map, List.map_flatMap, joinL_flat (f := fun r => (rowLines r).map TL.tl) (fun r e => rowLines_ne r (List.map_eq_nil_iff.mp e))]
  refine congrArg _ (List.map_congr_left fun r _ => ?_)
  show TL.tl (Txt.join nlS ([r].flatMap rowLines)) = _
  rw [tl_txtjoin, List.flatMap_cons, List.flatMap_nil, List.append_nil]
theorem text_starts (rs : List PRow) (c : Nat) : Txt.startswith (textOf rs) (textOf (rs.take c)) = true := by
  have key : ∃ y, textOf rs = textOf (rs.take c) ++ y := by
    by_cases h1 : rs.take c = []
    · refine ⟨textOf rs, TL.ext_tl ?_⟩
      rw [h1, TL.tl_append]
      rfl
    · by_cases h2 : rs.drop c = []
      · refine ⟨"", TL.ext_tl ?_⟩
        have : rs.take c = rs := by
          have := List.take_append_drop c rs
          rw [h2, List.append_nil] at this
          exact this
        rw [this, TL.tl_append]
        show _ = _ ++ []
        rw [List.append_nil]
      · refine ⟨nlS ++ textOf (rs.drop c), TL.ext_tl ?_⟩
        have n1 : ∀ {as : List PRow}, as ≠ [] → (as.flatMap rowLines).map TL.tl ≠ [] := fun {as} h e => by
          cases as with
          | nil => exact h rfl
          | cons a as => rw [List.flatMap_cons] at e; exact rowLines_ne a (List.append_eq_nil_iff.mp (List.map_eq_nil_iff.mp e)).1
        rw [TL.tl_append, TL.tl_append]
        unfold textOf
        rw [tl_txtjoin, tl_txtjoin, tl_txtjoin, ← joinL_app (n1 h1) (n1 h2), ← List.map_append, ← List.flatMap_append, List.take_append_drop]
  obtain ⟨y, e⟩ := key
  rw [e]
  exact PySem.W.KT.starts_app _ _
theorem bookTags_app (as bs : List PRow) : bookTags (as ++ bs) = bookTags as ++ bookTags bs := List.flatMap_append
theorem bookTags_take (rs : List PRow) (c : Nat) : bookTags rs = bookTags (rs.take c) ++ bookTags (rs.drop c) := by
  rw [← bookTags_app, List.take_append_drop]
theorem rows_le_tags (rs : List PRow) : rs.length ≤ (bookTags rs).length := by
  induction rs with
  | nil => exact Nat.le_refl _
  | cons r rs ih =>
    show rs.length + 1 ≤ (rowTags r ++ bookTags rs).length
    rw [List.length_append]
    show _ ≤ (_ + 1) + _
    omega
/-- the row behind a beginning -/
theorem tags_at (rs : List PRow) {c : Nat} {r : PRow} (h : rs[c]? = some r) : (bookTags rs)[(bookTags (rs.take c)).length]? = some (.part r.name r.lot r.lead) := by
  have e : rs.drop c = r :: rs.drop (c + 1) := by
    obtain ⟨h1, h2⟩ := List.getElem?_eq_some_iff.mp h
    rw [List.drop_eq_getElem_cons h1, h2]
  rw [bookTags_take rs c, List.getElem?_append_right (Nat.le_refl _), Nat.sub_self, e]
  rfl
theorem part_five (z : Str) (i j : Int) : L2.cutS (Tg.line (.part z i j)) none (some 5) = "part " := by
  have e : ∃ y, TL.tl (Tg.line (.part z i j)) = [112, 97, 114, 116, 32] ++ y := by
    unfold Tg.line
    rw [tl_txtjoin]
    exact ⟨_, rfl⟩
  obtain ⟨y, e⟩ := e
  have hl : (Tg.line (.part z i j)).length = 5 + y.length := by
    rw [TL.len_tl, e, List.length_append]
    rfl
  refine TL.ext_tl ?_
  unfold L2.cutS
  rw [HT.sIx_none, show ((5 : Int)) = ((5 : Nat) : Int) from rfl, HT.sIx_nat, hl, show min 5 (5 + y.length) - 0 = 5 by omega, List.drop_zero]
  show List.take 5 (TL.tl (Tg.line (.part z i j))) = _
  rw [e]
  rfl
/-- rows that need nothing -/
structure Bare (r : PRow) : Prop where
  nm : isNameM r.name = true
  lot : 1 ≤ r.lot ∧ r.lot ≤ 99
  lead : 0 ≤ r.lead ∧ r.lead ≤ 30
  few : r.steps.length ≤ 5
  steps : ∀ x ∈ r.steps, (0 ≤ x.1 ∧ x.1 < 6) ∧ 1 ≤ x.2 ∧ x.2 ≤ 99
  none : r.needs = []
theorem GoodRow.bare {names : List Str} {r : PRow} (R : GoodRow names r) (h : r.needs = []) : Bare r := ⟨R.nm, R.lot, R.lead, R.few, R.steps, h⟩
theorem bare_led : ∀ (as bs : List PRow), (∀ r ∈ as, r.needs = []) → (∀ p ∈ ledOf bs, p.2 = []) → ∀ p ∈ ledOf (bs ++ as), p.2 = []
  | [], bs, _, h => by rw [List.append_nil]; exact h
  | a :: as, bs, ha, h => by
    have e : bs ++ a :: as = (bs ++ [a]) ++ as := by simp
    rw [e]
    refine bare_led as (bs ++ [a]) (fun r hr => ha r (.tail _ hr)) fun p hp => ?_
    rw [ledOf_snoc] at hp
    rcases List.mem_append.mp hp with hp | hp
    · exact h p hp
    · rw [List.mem_singleton] at hp
      subst hp
      show ledTo _ _ a.needs = []
      rw [ha a (.head _)]
      unfold ledTo
      refine List.filter_eq_nil_iff.mpr fun q hq => ?_
      obtain ⟨s, _, rfl⟩ := List.mem_map.mp (show q ∈ _ from hq)
      simp
theorem bare_book {as : List PRow} (h : ∀ r ∈ as, Bare r) (nd : (as.map (·.name)).Nodup) (hl : as.length ≤ 12) : GoodBook as where
  len := hl
  row := fun i r hr => by
    have b := h r (List.mem_of_getElem? hr)
    refine ⟨b.nm, ?_, b.lot, b.lead, ?_, ?_, ?_, b.few, b.steps⟩
    · intro hm
      rw [← List.take_append_drop i as, List.map_append, List.nodup_append] at nd
      obtain ⟨q, hq, e⟩ := List.mem_map.mp hm
      refine nd.2.2 q.name (List.mem_map.mpr ⟨q, hq, rfl⟩) r.name (List.mem_map.mpr ⟨r, ?_, rfl⟩) e
      exact List.mem_of_getElem? (i := 0) (by rw [List.getElem?_drop]; simpa using hr)
    · rw [b.none]; exact List.nodup_nil
    · intro x hx; rw [b.none] at hx; cases hx
    · intro x hx; rw [b.none] at hx; cases hx
  led := fun p hp => by
    have := bare_led as [] (fun r hr => (h r hr).none) (fun _ z => nomatch z) p hp
    rw [this]
    decide
theorem GoodBook.alone {rs : List PRow} (G : GoodBook rs) : (∀ r ∈ rs.filter (fun r => r.needs.isEmpty), Bare r) ∧ ((rs.filter fun r => r.needs.isEmpty).map (·.name)).Nodup ∧ (rs.filter fun r => r.needs.isEmpty).length ≤ 12 := by
  refine ⟨fun r hr => ?_, ?_, ?_⟩
  · obtain ⟨h1, h2⟩ := List.mem_filter.mp hr
    obtain ⟨i, hi⟩ := List.getElem?_of_mem h1
    exact (G.row i r hi).bare (List.isEmpty_iff.mp h2)
  · have := G.nodup rs.length
    rw [List.take_length] at this
    exact this.sublist ((List.filter_sublist ..).map _)
  · exact Nat.le_trans (List.length_filter_le ..) G.len
theorem Bare.book {r : PRow} (b : Bare r) : GoodBook [r] := bare_book (fun q hq => by rw [List.mem_singleton] at hq; exact hq ▸ b) (by simp) (by simp)
end PM

/-! shapes of rows and lines -/
namespace PM
open PySem L2 WK
theorem row_shp {r : PRow} (h : r.name.cps.all (· < 0x110000) = true) (hn : ∀ x ∈ r.needs, x.1.cps.all (· < 0x110000) = true) : Shp 3 (encRow r) := by
  refine Shp.tup fun d hd => ?_
  simp only [List.mem_cons, List.not_mem_nil, or_false] at hd
  rcases hd with rfl | rfl | rfl | rfl | rfl
  · exact Shp.str h
  · refine Shp.tup fun d hd => ?_
    obtain ⟨x, hx, rfl⟩ := List.mem_map.mp hd
    refine Shp.tup fun d hd => ?_
    simp only [List.mem_cons, List.not_mem_nil, or_false] at hd
    rcases hd with rfl | rfl
    · exact Shp.str (hn x hx)
    · exact Shp.int
  · refine Shp.tup fun d hd => ?_
    obtain ⟨x, hx, rfl⟩ := List.mem_map.mp hd
    refine Shp.tup fun d hd => ?_
    simp only [List.mem_cons, List.not_mem_nil, or_false] at hd
    rcases hd with rfl | rfl
    · exact Shp.int
    · exact Shp.int
  · exact Shp.int
  · exact Shp.int
theorem name_shp {z : Str} (h : isNameM z = true) : z.cps.all (· < 0x110000) = true := by
  have key : ∀ c ∈ z.cps.toList, c < 0x110000 := fun c hc => by
    refine Decidable.byContradiction fun hn => ?_
    refine name_free (c := c) h (fun hm => hn ?_) hc
    have : ∀ x ∈ letters.cps.toList, x < 0x110000 := by decide +kernel
    exact this c hm
  rw [← Array.all_toList]
  exact List.all_eq_true.mpr fun c hc => decide_eq_true (key c hc)
theorem GoodBook.rowShp {rs : List PRow} (G : GoodBook rs) {r : PRow} (h : r ∈ rs) : Shp 3 (encRow r) := by
  obtain ⟨i, hi⟩ := List.getElem?_of_mem h
  have R := G.row i r hi
  refine row_shp (name_shp R.nm) fun x hx => ?_
  obtain ⟨q, hq, e⟩ := List.mem_map.mp (R.known x hx)
  obtain ⟨j, hj⟩ := List.getElem?_of_mem (List.mem_of_mem_take hq)
  rw [← e]
  exact name_shp (G.row j q hj).nm
theorem GoodBook.shp {rs : List PRow} (G : GoodBook rs) : Shp 4 (.list (rs.map encRow)) := Shp.lst fun d hd => by
  obtain ⟨r, hr, rfl⟩ := List.mem_map.mp hd
  exact G.rowShp hr
theorem num_shp : ∀ k : Fin 100, ∀ c ∈ TL.tl (numS (k.val : Int)), c < 0x110000 := by decide +kernel
theorem num_shp' {i : Int} (h0 : 0 ≤ i) (h1 : i < 100) : ∀ c ∈ TL.tl (numS i), c < 0x110000 := by
  have := num_shp ⟨i.toNat, by omega⟩
  rwa [show ((i.toNat : Nat) : Int) = i by omega] at this
theorem name_shp' {z : Str} (h : isNameM z = true) : ∀ c ∈ TL.tl z, c < 0x110000 := by
  have := name_shp h
  rw [← Array.all_toList, List.all_eq_true] at this
  exact fun c hc => of_decide_eq_true (this c hc)
theorem line_shp {t : Tg} (h : t.ok) : Shp 0 (.str t.line) := by
  refine Shp.str ?_
  rw [← Array.all_toList]
  refine List.all_eq_true.mpr fun c hc => decide_eq_true ?_
  have hm : c ∈ TL.tl t.line := hc
  unfold Tg.line at hm
  rw [tl_txtjoin] at hm
  rcases mem_joinL hm with h1 | ⟨p, hp, h1⟩
  · exact (show ∀ c ∈ TL.tl spc, c < 0x110000 by decide +kernel) c h1
  · obtain ⟨q, hq, rfl⟩ := List.mem_map.mp hp
    cases t with
    | part z i j =>
      obtain ⟨k1, k2, k3⟩ := h
      simp only [Tg.words, List.mem_cons, List.not_mem_nil, or_false] at hq
      rcases hq with rfl | rfl | rfl | rfl
      · exact (show ∀ c ∈ TL.tl "part", c < 0x110000 by decide +kernel) c h1
      · exact name_shp' k1 c h1
      · exact num_shp' k2.1 k2.2 c h1
      · exact num_shp' k3.1 k3.2 c h1
    | need z i =>
      obtain ⟨k1, k2⟩ := h
      simp only [Tg.words, List.mem_cons, List.not_mem_nil, or_false] at hq
      rcases hq with rfl | rfl | rfl
      · exact (show ∀ c ∈ TL.tl "need", c < 0x110000 by decide +kernel) c h1
      · exact name_shp' k1 c h1
      · exact num_shp' k2.1 k2.2 c h1
    | step i j =>
      obtain ⟨k2, k3⟩ := h
      simp only [Tg.words, List.mem_cons, List.not_mem_nil, or_false] at hq
      rcases hq with rfl | rfl | rfl
      · exact (show ∀ c ∈ TL.tl "step", c < 0x110000 by decide +kernel) c h1
      · exact num_shp' k2.1 k2.2 c h1
      · exact num_shp' k3.1 k3.2 c h1
end PM

/-! the law's own lines -/
namespace PM
open PySem L2 WK
theorem part_plus (z : Str) (i j : Int) : ((((("part " : Str) ++ z) ++ (" " : Str)) ++ numS i) ++ (" " : Str)) ++ numS j = Tg.line (.part z i j) := by
  refine TL.ext_tl ?_
  unfold Tg.line
  rw [tl_txtjoin]
  simp only [TL.tl_append]
  show _ = TL.tl "part" ++ (TL.tl spc ++ (TL.tl z ++ (TL.tl spc ++ (TL.tl (numS i) ++ (TL.tl spc ++ TL.tl (numS j))))))
  rw [show TL.tl ("part " : Str) = TL.tl "part" ++ TL.tl spc by decide +kernel]
  simp only [List.append_assoc]
theorem need_plus (z : Str) (i : Int) : ((("need " : Str) ++ z) ++ (" " : Str)) ++ numS i = Tg.line (.need z i) := by
  refine TL.ext_tl ?_
  unfold Tg.line
  rw [tl_txtjoin]
  simp only [TL.tl_append]
  show _ = TL.tl "need" ++ (TL.tl spc ++ (TL.tl z ++ (TL.tl spc ++ (TL.tl (numS i)))))
  rw [show TL.tl ("need " : Str) = TL.tl "need" ++ TL.tl spc by decide +kernel]
  simp only [List.append_assoc]
theorem step_plus (i j : Int) : ((("step " : Str) ++ numS i) ++ (" " : Str)) ++ numS j = Tg.line (.step i j) := by
  refine TL.ext_tl ?_
  unfold Tg.line
  rw [tl_txtjoin]
  simp only [TL.tl_append]
  show _ = TL.tl "step" ++ (TL.tl spc ++ (TL.tl (numS i) ++ (TL.tl spc ++ (TL.tl (numS j)))))
  rw [show TL.tl ("step " : Str) = TL.tl "step" ++ TL.tl spc by decide +kernel]
  simp only [List.append_assoc]
theorem len_add (a b : Str) : (a ++ b).length = a.length + b.length := by
  rw [TL.len_tl, TL.tl_append, List.length_append, ← TL.len_tl, ← TL.len_tl]
end PM
namespace PM
open PySem L2 WK
theorem textOf_nil : textOf [] = "" := TL.ext_tl (by unfold textOf; rw [tl_txtjoin]; rfl)
abbrev rowA : PRow := ⟨"a", [], [], 99, 30⟩
theorem textOf_a : textOf [rowA] = "part a 99 30" := by decide +kernel
theorem goodA : GoodBook [rowA] := Bare.book ⟨by decide +kernel, by decide, by decide, by decide, (fun _ z => nomatch z), rfl⟩
theorem row_al {r : PRow} (h1 : r.needs.length ≤ 100000) (h2 : r.steps.length ≤ 100000) {n : Nat} : AlOk (n + 3) (encRow r) := by
  refine AlOk.tup (by simp) fun d hd => ?_
  simp only [List.mem_cons, List.not_mem_nil, or_false] at hd
  rcases hd with rfl | rfl | rfl | rfl | rfl
  · exact AlOk.str
  · refine AlOk.tup (by rw [List.length_map]; exact h1) fun d hd => ?_
    obtain ⟨x, hx, rfl⟩ := List.mem_map.mp hd
    refine AlOk.tup (by simp) fun d hd => ?_
    simp only [List.mem_cons, List.not_mem_nil, or_false] at hd
    rcases hd with rfl | rfl
    · exact AlOk.str
    · exact AlOk.int
  · refine AlOk.tup (by rw [List.length_map]; exact h2) fun d hd => ?_
    obtain ⟨x, hx, rfl⟩ := List.mem_map.mp hd
    refine AlOk.tup (by simp) fun d hd => ?_
    simp only [List.mem_cons, List.not_mem_nil, or_false] at hd
    rcases hd with rfl | rfl
    · exact AlOk.int
    · exact AlOk.int
  · exact AlOk.int
  · exact AlOk.int
theorem GoodBook.al {rs : List PRow} (G : GoodBook rs) {n : Nat} : AlOk (n + 4) (.list (rs.map encRow)) := by
  refine AlOk.lst (by rw [List.length_map]; have := G.len; omega) fun d hd => ?_
  obtain ⟨r, hr, rfl⟩ := List.mem_map.mp hd
  have hnl := G.lines18 r hr
  unfold rowLines at hnl
  rw [List.length_cons, List.length_append, List.length_map, List.length_map] at hnl
  exact row_al (by omega) (by omega)
end PM

/-! what the law itself counts -/
namespace PM
open PySem L2
def needsOf (rs : List PRow) (s : Str) : List (Str × Int) := match rs.filter fun r => decide (r.name = s) with | r :: _ => r.needs | [] => []
def lawStep (g : Str → List (Str × Int)) (f : List (Str × Int)) (p : Str × Int) : List (Str × Int) := addAll p.2 (addA f p.1 p.2) (g p.1)
def lawLed (rs : List PRow) : Nat → List (Str × Int) → List (Str × Int)
  | 0, _ => []
  | n + 1, needs => needs.foldl (lawStep fun s => lawLed rs n (needsOf rs s)) []
structure Fine (names : List Str) (f : List (Str × Int)) : Prop where
  nd : (f.map (·.1)).Nodup
  sub : ∀ y ∈ f, y.1 ∈ names
theorem putA_fine {names : List Str} {f : List (Str × Int)} {s : Str} {v : Int} (h : Fine names f) (hs : s ∈ names) : Fine names (putA f s v) := by
  by_cases k : s ∈ f.map (·.1)
  · refine ⟨by rw [putA_keys f s v k]; exact h.nd, fun y hy => ?_⟩
    have : y.1 ∈ (putA f s v).map (·.1) := List.mem_map.mpr ⟨y, hy, rfl⟩
    rw [putA_keys f s v k] at this
    obtain ⟨z, hz, e⟩ := List.mem_map.mp this
    rw [← e]
    exact h.sub z hz
  · rw [putA_new f s v k]
    refine ⟨?_, fun y hy => ?_⟩
    · rw [List.map_append]
      refine List.nodup_append.mpr ⟨h.nd, List.nodup_cons.mpr ⟨(by simp), List.nodup_nil⟩, ?_⟩
      intro a ha b hb hab
      rw [List.map_singleton, List.mem_singleton] at hb
      subst hb hab
      exact k ha
    · rcases List.mem_append.mp hy with hy | hy
      · exact h.sub y hy
      · rw [List.mem_singleton] at hy
        subst hy
        exact hs
theorem addA_fine {names : List Str} {f : List (Str × Int)} {s : Str} {v : Int} (h : Fine names f) (hs : s ∈ names) : Fine names (addA f s v) := putA_fine h hs
theorem addAll_fine {names : List Str} {m : Int} {more : List (Str × Int)} (hm : ∀ y ∈ more, y.1 ∈ names) {f : List (Str × Int)} (h : Fine names f) : Fine names (addAll m f more) := by
  unfold addAll
  induction more generalizing f with
  | nil => exact h
  | cons y more ih =>
    rw [List.foldl_cons]
    exact ih (fun z hz => hm z (.tail _ hz)) (addA_fine h (hm y (.head _)))
theorem Fine.nil (names : List Str) : Fine names [] := ⟨List.nodup_nil, fun _ h => nomatch h⟩
theorem Fine.len {names : List Str} {f : List (Str × Int)} (h : Fine names f) : f.length ≤ names.length := by
  have := nodup_sub_length h.nd (l' := names) (fun x hx => by obtain ⟨y, hy, rfl⟩ := List.mem_map.mp hx; exact h.sub y hy)
  rwa [List.length_map] at this
theorem lawStep_fine {names : List Str} {g : Str → List (Str × Int)} {f : List (Str × Int)} {p : Str × Int} (h : Fine names f) (hp : p.1 ∈ names) (hg : ∀ y ∈ g p.1, y.1 ∈ names) : Fine names (lawStep g f p) := addAll_fine hg (addA_fine h hp)
theorem lawFold_fine {names : List Str} {g : Str → List (Str × Int)} {needs : List (Str × Int)} (hp : ∀ p ∈ needs, p.1 ∈ names) (hg : ∀ p ∈ needs, ∀ y ∈ g p.1, y.1 ∈ names) {f : List (Str × Int)} (h : Fine names f) : Fine names (needs.foldl (lawStep g) f) := by
  induction needs generalizing f with
  | nil => exact h
  | cons p needs ih =>
    rw [List.foldl_cons]
    exact ih (fun q hq => hp q (.tail _ hq)) (fun q hq => hg q (.tail _ hq)) (lawStep_fine h (hp p (.head _)) (hg p (.head _)))
theorem filter_one {rs : List PRow} {r : PRow} (nd : (rs.map (·.name)).Nodup) (h : r ∈ rs) : rs.filter (fun x => decide (x.name = r.name)) = [r] := by
  induction rs with
  | nil => cases h
  | cons a rs ih =>
    rw [List.map_cons] at nd
    obtain ⟨n1, n2⟩ := List.nodup_cons.mp nd
    rcases List.mem_cons.mp h with rfl | h
    · rw [List.filter_cons, if_pos (decide_eq_true rfl)]
      congr 1
      refine List.filter_eq_nil_iff.mpr fun x hx => ?_
      intro z
      exact n1 (List.mem_map.mpr ⟨x, hx, of_decide_eq_true z⟩)
    · rw [List.filter_cons, if_neg, ih n2 h]
      intro z
      exact n1 (List.mem_map.mpr ⟨r, h, (of_decide_eq_true z).symm⟩)
section
variable {rs : List PRow}
theorem GoodBook.nd (G : GoodBook rs) : (rs.map (·.name)).Nodup := by
  have := G.nodup rs.length
  rwa [List.take_length] at this
theorem needsOf_row (G : GoodBook rs) {r : PRow} (h : r ∈ rs) : needsOf rs r.name = r.needs := by
  unfold needsOf
  rw [filter_one G.nd h]
theorem mem_take_names {i n : Nat} (hi : i ≤ n) {s : Str} (h : s ∈ (rs.take i).map (·.name)) : s ∈ (rs.take n).map (·.name) := by
  obtain ⟨r, hr, e⟩ := List.mem_map.mp h
  refine List.mem_map.mpr ⟨r, ?_, e⟩
  obtain ⟨j, hj⟩ := List.getElem?_of_mem hr
  have h1 : j < i := by
    have := (List.getElem?_eq_some_iff.mp hj).1
    rw [List.length_take] at this
    omega
  rw [List.getElem?_take_of_lt h1] at hj
  exact List.mem_of_getElem? (by rw [List.getElem?_take_of_lt (show j < n by omega)]; exact hj)
theorem names_take {n : Nat} {s : Str} (h : s ∈ (rs.take n).map (·.name)) : s ∈ rs.map (·.name) := by
  obtain ⟨r, hr, e⟩ := List.mem_map.mp h
  exact List.mem_map.mpr ⟨r, List.mem_of_mem_take hr, e⟩
/-- the row behind a name, and how deep it lies -/
theorem GoodBook.at (G : GoodBook rs) {n : Nat} {s : Str} (h : s ∈ (rs.take (n + 1)).map (·.name)) : ∃ r ∈ rs, r.name = s ∧ rs.filter (fun x => decide (x.name = s)) = [r] ∧ (∀ x ∈ r.needs, x.1 ∈ (rs.take n).map (·.name)) ∧ (∀ x ∈ r.needs, 1 ≤ x.2 ∧ x.2 ≤ 9) ∧ r.needs.length ≤ 12 := by
  obtain ⟨r, hr, rfl⟩ := List.mem_map.mp h
  obtain ⟨j, hj⟩ := List.getElem?_of_mem hr
  have h1 : j < n + 1 := by
    have := (List.getElem?_eq_some_iff.mp hj).1
    rw [List.length_take] at this
    omega
  rw [List.getElem?_take_of_lt h1] at hj
  have R := G.row j r hj
  have hm := List.mem_of_getElem? hj
  refine ⟨r, hm, rfl, filter_one G.nd hm, fun x hx => mem_take_names (by omega) (R.known x hx), R.many, ?_⟩
  have := nodup_sub_length R.nd (l' := (rs.take j).map (·.name)) (by
    intro x hx
    obtain ⟨y, hy, rfl⟩ := List.mem_map.mp hx
    exact R.known y hy)
  rw [List.length_map, List.length_map, List.length_take] at this
  have := G.len
  omega
theorem lawLed_fine (G : GoodBook rs) : ∀ (n : Nat) (needs : List (Str × Int)), (∀ x ∈ needs, x.1 ∈ (rs.take n).map (·.name)) → Fine (rs.map (·.name)) (lawLed rs n needs)
  | 0, _, _ => Fine.nil _
  | n + 1, needs, h => by
    refine lawFold_fine (fun p hp => names_take (h p hp)) (fun p hp => ?_) (Fine.nil _)
    obtain ⟨r, hr, e, hf, hn, _⟩ := G.at (h p hp)
    rw [← e, needsOf_row G hr]
    exact (lawLed_fine G n r.needs hn).sub
end
theorem get_kvI (f : List (Str × Int)) (s : Str) (d : Int) : (valV (kvI f) (.inr s)).getD (.int d) = .int ((getA f s).getD d) := by
  rw [valV_kvI]
  cases getA f s <;> rfl
open WK in
theorem src_keysI {d : Addr} {o : Obj} {m : List (Str × Int)} : Src (Itk d o (kvI m)) (Frz d o (kvI m)) m (fun _ x p => x = .str p.1) := by
  have h := src_keys (d := d) (o := o) (kvs := kvI m)
  have e : (kvI m).map (·.1) = m.map fun p => (Sum.inr p.1 : Key) := by unfold kvI; rw [List.map_map]; rfl
  rw [e] at h
  exact h.map
open WK in
theorem src_itemsI {d : Addr} {o : Obj} {m : List (Str × Int)} : Src (Iti d o (kvI m)) (Frz d o (kvI m)) m (fun B x p => ∃ T, x = .ref T ∧ B T = some (.tup [.str p.1, .int p.2])) := src_items.map
theorem getA_nodup {α : Type} {m : List (Str × α)} {y : Str × α} (h : y ∈ m) (nd : (m.map (·.1)).Nodup) : getA m y.1 = some y.2 := by
  induction m with
  | nil => cases h
  | cons p m ih =>
    rw [List.map_cons] at nd
    obtain ⟨n1, n2⟩ := List.nodup_cons.mp nd
    unfold getA
    rw [List.find?_cons]
    rcases List.mem_cons.mp h with rfl | h
    · rw [decide_eq_true rfl]; rfl
    · rw [decide_eq_false (fun e : p.1 = y.1 => n1 (List.mem_map.mpr ⟨y, h, e.symm⟩))]
      exact ih h n2
end PM

/-! what the law counts is what the program counts -/
namespace PM
open PySem L2
def valA (f : List (Str × Int)) (s : Str) : Int := (getA f s).getD 0
theorem getA_putA (f : List (Str × Int)) (s t : Str) (v : Int) : getA (putA f s v) t = if t = s then some v else getA f t := by
  have h : (getA (putA f s v) t).map V.int = (if t = s then some v else getA f t).map V.int := by
    rw [← valV_kvI, ← putK_kvI, valV_put]
    by_cases e : t = s
    · subst e; rw [if_pos rfl, if_pos rfl]; rfl
    · rw [if_neg e, if_neg (fun z => e (Sum.inr.inj z)), valV_kvI]
  cases e1 : getA (putA f s v) t with
  | none =>
    rw [e1] at h
    cases e2 : (if t = s then some v else getA f t) with
    | none => rfl
    | some w => rw [e2] at h; cases h
  | some u =>
    rw [e1] at h
    cases e2 : (if t = s then some v else getA f t) with
    | none => rw [e2] at h; cases h
    | some w => rw [e2] at h; simp at h; rw [h]
theorem valA_addA (f : List (Str × Int)) (s t : Str) (i : Int) : valA (addA f s i) t = valA f t + if t = s then i else 0 := by
  unfold valA addA
  rw [getA_putA]
  by_cases e : t = s
  · subst e; rw [if_pos rfl, if_pos rfl]; rfl
  · rw [if_neg e, if_neg e]; omega
theorem getA_cons {α : Type} (y : Str × α) (l : List (Str × α)) (t : Str) : getA (y :: l) t = if y.1 = t then some y.2 else getA l t := by
  unfold getA
  rw [List.find?_cons]
  by_cases e : y.1 = t
  · rw [if_pos e, decide_eq_true e]; rfl
  · rw [if_neg e, decide_eq_false e]
theorem getA_none {α : Type} {l : List (Str × α)} {t : Str} (h : t ∉ l.map (·.1)) : getA l t = none := by
  cases e : getA l t with
  | none => rfl
  | some v => exact absurd (List.mem_map.mpr ⟨_, getA_mem e, rfl⟩) h
theorem valA_addAll {m : Int} {more : List (Str × Int)} (nd : (more.map (·.1)).Nodup) (f : List (Str × Int)) (t : Str) : valA (addAll m f more) t = valA f t + m * valA more t := by
  induction more generalizing f with
  | nil => show valA f t = valA f t + m * 0; omega
  | cons y more ih =>
    rw [List.map_cons] at nd
    obtain ⟨n1, n2⟩ := List.nodup_cons.mp nd
    show valA (addAll m (addA f y.1 (m * y.2)) more) t = _
    rw [ih n2, valA_addA]
    have hv : valA (y :: more) t = if y.1 = t then y.2 else valA more t := by
      unfold valA
      rw [getA_cons]
      by_cases e : y.1 = t
      · rw [if_pos e, if_pos e]; rfl
      · rw [if_neg e, if_neg e]
    rw [hv]
    by_cases e : t = y.1
    · subst e
      have h0 : valA more y.1 = 0 := by unfold valA; rw [getA_none n1]; rfl
      rw [if_pos rfl, if_pos rfl, h0]
      omega
    · rw [if_neg e, if_neg (fun z => e z.symm)]
      omega
/-- alike as sums -/
def Alk (f g : List (Str × Int)) : Prop := ∀ t, valA f t = valA g t
theorem fold_alk {g g' : Str → List (Str × Int)} {needs : List (Str × Int)} (h : ∀ p ∈ needs, ((g p.1).map (·.1)).Nodup ∧ ((g' p.1).map (·.1)).Nodup ∧ Alk (g p.1) (g' p.1)) {f f' : List (Str × Int)} (e : Alk f f') : Alk (needs.foldl (lawStep g) f) (needs.foldl (lawStep g') f') := by
  induction needs generalizing f f' with
  | nil => exact e
  | cons p needs ih =>
    obtain ⟨h1, h2, h3⟩ := h p (.head _)
    rw [List.foldl_cons, List.foldl_cons]
    refine ih (fun q hq => h q (.tail _ hq)) fun t => ?_
    unfold lawStep
    rw [valA_addAll h1, valA_addAll h2, valA_addA, valA_addA, e t, h3 t]
def Pos (f : List (Str × Int)) : Prop := ∀ y ∈ f, 0 < y.2
theorem putA_mem {f : List (Str × Int)} {s : Str} {v : Int} {y : Str × Int} (h : y ∈ putA f s v) : y = (s, v) ∨ y ∈ f := by
  unfold putA at h
  split at h
  · obtain ⟨z, hz, e⟩ := List.mem_map.mp h
    by_cases k : z.1 = s
    · rw [if_pos k] at e; exact .inl (by rw [← e, k])
    · rw [if_neg k] at e; exact .inr (e ▸ hz)
  · rcases List.mem_append.mp h with h | h
    · exact .inr h
    · exact .inl (List.mem_singleton.mp h)
theorem addA_pos {f : List (Str × Int)} {s : Str} {i : Int} (h : Pos f) (hi : 0 < i) : Pos (addA f s i) := by
  intro y hy
  rcases putA_mem hy with rfl | hy
  · show 0 < (getA f s).getD 0 + i
    cases e : getA f s with
    | none => show 0 < 0 + i; omega
    | some v => have : 0 < v := h _ (getA_mem e); show 0 < v + i; omega
  · exact h y hy
theorem addAll_pos {f more : List (Str × Int)} {m : Int} (h : Pos f) (hm : 0 < m) (hp : Pos more) : Pos (addAll m f more) := by
  unfold addAll
  induction more generalizing f with
  | nil => exact h
  | cons y more ih => exact ih (addA_pos h (Int.mul_pos hm (hp y (.head _)))) fun z hz => hp z (.tail _ hz)
theorem fold_pos {g : Str → List (Str × Int)} {needs : List (Str × Int)} (hn : Pos needs) (h : ∀ p ∈ needs, Pos (g p.1)) {f : List (Str × Int)} (hf : Pos f) : Pos (needs.foldl (lawStep g) f) := by
  induction needs generalizing f with
  | nil => exact hf
  | cons p needs ih => exact ih (fun z hz => hn z (.tail _ hz)) (fun q hq => h q (.tail _ hq)) (addAll_pos (addA_pos hf (hn p (.head _))) (hn p (.head _)) (h p (.head _)))
def Nng (f : List (Str × Int)) : Prop := ∀ y ∈ f, 0 ≤ y.2
theorem addA_nng {f : List (Str × Int)} {s : Str} {i : Int} (h : Nng f) (hi : 0 ≤ i) : Nng (addA f s i) := by
  intro y hy
  rcases putA_mem hy with rfl | hy
  · show 0 ≤ (getA f s).getD 0 + i
    cases e : getA f s with
    | none => show 0 ≤ 0 + i; omega
    | some v => have : 0 ≤ v := h _ (getA_mem e); show 0 ≤ v + i; omega
  · exact h y hy
theorem addAll_nng {f more : List (Str × Int)} {m : Int} (h : Nng f) (hm : 0 < m) (hp : Pos more) : Nng (addAll m f more) := by
  unfold addAll
  induction more generalizing f with
  | nil => exact h
  | cons y more ih => exact ih (addA_nng h (Int.le_of_lt (Int.mul_pos hm (hp y (.head _))))) fun z hz => hp z (.tail _ hz)
theorem fold_nng {g : Str → List (Str × Int)} {needs : List (Str × Int)} (hn : Pos needs) (h : ∀ p ∈ needs, Pos (g p.1)) {f : List (Str × Int)} (hf : Nng f) : Nng (needs.foldl (lawStep g) f) := by
  induction needs generalizing f with
  | nil => exact hf
  | cons p needs ih => exact ih (fun z hz => hn z (.tail _ hz)) (fun q hq => h q (.tail _ hq)) (addAll_nng (addA_nng hf (Int.le_of_lt (hn p (.head _)))) (hn p (.head _)) (h p (.head _)))
theorem filter_alk {f : List (Str × Int)} (nd : (f.map (·.1)).Nodup) (nn : Nng f) : Alk (f.filter fun p => decide (0 < p.2)) f := by
  intro t
  have nd2 : ((f.filter fun p => decide (0 < p.2)).map (·.1)).Nodup := nd.sublist (List.filter_sublist.map _)
  unfold valA
  cases e : getA f t with
  | none =>
    rw [getA_none]
    intro z
    obtain ⟨y, hy, rfl⟩ := List.mem_map.mp z
    have := (getA_isSome f y.1).mpr (List.mem_map.mpr ⟨y, (List.mem_filter.mp hy).1, rfl⟩)
    rw [e] at this
    cases this
  | some v =>
    have hm := getA_mem e
    by_cases hv : 0 < v
    · rw [getA_nodup (y := (t, v)) (List.mem_filter.mpr ⟨hm, decide_eq_true hv⟩) nd2]
    · have : v = 0 := by have : 0 ≤ v := nn _ hm; omega
      subst this
      cases e2 : getA (f.filter fun p => decide (0 < p.2)) t with
      | none => rfl
      | some u =>
        obtain ⟨h1, h2⟩ := List.mem_filter.mp (getA_mem e2)
        have := getA_nodup h1 nd
        rw [show (t, u).1 = t from rfl, e] at this
        exact (Option.some.inj this).symm
/-- alike, each key once, no zero: the same rows -/
theorem alk_mem {f g : List (Str × Int)} (nf : (f.map (·.1)).Nodup) (pf : Pos f) (e : Alk f g) {y : Str × Int} (h : y ∈ f) : getA g y.1 = some y.2 := by
  have h1 := e y.1
  unfold valA at h1
  rw [getA_nodup h nf] at h1
  have hp := pf y h
  cases e2 : getA g y.1 with
  | none => rw [e2] at h1; simp at h1; omega
  | some v => rw [e2] at h1; simp at h1; rw [h1]
theorem alk_len {f g : List (Str × Int)} (nf : (f.map (·.1)).Nodup) (ng : (g.map (·.1)).Nodup) (pf : Pos f) (pg : Pos g) (e : Alk f g) : f.length = g.length := by
  have h1 := nodup_sub_length nf (l' := g.map (·.1)) fun x hx => by
    obtain ⟨y, hy, rfl⟩ := List.mem_map.mp hx
    exact List.mem_map.mpr ⟨_, getA_mem (alk_mem nf pf e hy), rfl⟩
  have h2 := nodup_sub_length ng (l' := f.map (·.1)) fun x hx => by
    obtain ⟨y, hy, rfl⟩ := List.mem_map.mp hx
    exact List.mem_map.mpr ⟨_, getA_mem (alk_mem ng pg (fun t => (e t).symm) hy), rfl⟩
  simp only [List.length_map] at h1 h2
  omega
theorem nodup_of_keys {f : List (Str × Int)} (h : (f.map (·.1)).Nodup) : f.Nodup := by
  induction f with
  | nil => exact List.nodup_nil
  | cons y f ih =>
    obtain ⟨n1, n2⟩ := List.nodup_cons.mp h
    exact List.nodup_cons.mpr ⟨fun z => n1 (List.mem_map.mpr ⟨y, z, rfl⟩), ih n2⟩
theorem perm_sum {l l' : List Int} (h : l.Perm l') : l.sum = l'.sum := by
  induction h with
  | nil => rfl
  | cons x _ ih => simp [ih]
  | swap x y l => simp; omega
  | trans _ _ a b => exact a.trans b
theorem alk_sum {f g : List (Str × Int)} (nf : (f.map (·.1)).Nodup) (ng : (g.map (·.1)).Nodup) (pf : Pos f) (pg : Pos g) (e : Alk f g) : (f.map (·.2)).sum = (g.map (·.2)).sum := by
  have p : f.Perm g := (List.perm_ext_iff_of_nodup (nodup_of_keys nf) (nodup_of_keys ng)).mpr fun y => ⟨fun h => getA_mem (alk_mem nf pf e h), fun h => getA_mem (alk_mem ng pg (fun t => (e t).symm) h)⟩
  exact perm_sum (p.map _)
/-! what stands behind each name -/
theorem getA_append {α : Type} (l l' : List (Str × α)) (s : Str) : getA (l ++ l') s = match getA l s with | some v => some v | none => getA l' s := by
  induction l with
  | nil => rfl
  | cons y l ih =>
    rw [List.cons_append, getA_cons, getA_cons, ih]
    by_cases e : y.1 = s
    · rw [if_pos e, if_pos e]
    · rw [if_neg e, if_neg e]
theorem led_more : ∀ (xs : List PRow) (ls : List (Str × List (Str × Int))), ∃ more, xs.foldl ledStep ls = ls ++ more
  | [], ls => ⟨[], by rw [List.append_nil]; rfl⟩
  | r :: xs, ls => by
    obtain ⟨more, h⟩ := led_more xs (ledStep ls r)
    refine ⟨(r.name, ledTo (ls.map (·.1) ++ [r.name]) ls r.needs) :: more, ?_⟩
    rw [List.foldl_cons, h]
    unfold ledStep
    rw [List.append_assoc]
    rfl
section
variable {rs : List PRow}
theorem ledOf_cut (j : Nat) {s : Str} (h : s ∈ (rs.take j).map (·.name)) : getA (ledOf rs) s = getA (ledOf (rs.take j)) s := by
  obtain ⟨more, e⟩ := led_more (rs.drop j) (ledOf (rs.take j))
  have e2 : ledOf rs = ledOf (rs.take j) ++ more := by
    rw [← e]
    unfold ledOf
    rw [← List.foldl_append, List.take_append_drop]
  obtain ⟨v, hv⟩ := getA_of_mem (l := ledOf (rs.take j)) (s := s) (by rw [ledOf_names]; exact h)
  rw [e2, getA_append, hv]
def ledN (rs : List PRow) (s : Str) : List (Str × Int) := (getA (ledOf rs) s).getD []
theorem fold_congr {g g' : Str → List (Str × Int)} {needs f : List (Str × Int)} (h : ∀ p ∈ needs, g p.1 = g' p.1) : needs.foldl (lawStep g) f = needs.foldl (lawStep g') f := by
  induction needs generalizing f with
  | nil => rfl
  | cons p needs ih =>
    have e : lawStep g f p = lawStep g' f p := by unfold lawStep; rw [h p (.head _)]
    rw [List.foldl_cons, List.foldl_cons, e]
    exact ih fun q hq => h q (.tail _ hq)
theorem ledRaw_eq (names : List Str) (ls : List (Str × List (Str × Int))) (needs : List (Str × Int)) : ledRaw names ls needs = needs.foldl (lawStep fun s => (getA ls s).getD []) (names.map fun s => (s, 0)) := rfl
/-- the row at j -/
theorem GoodBook.ledAt (G : GoodBook rs) {j : Nat} {r : PRow} (h : rs[j]? = some r) : getA (ledOf rs) r.name = some (ledTo ((rs.take (j + 1)).map (·.name)) (ledOf rs) r.needs) := by
  have R := G.row j r h
  have hm : r.name ∈ (rs.take (j + 1)).map (·.name) := by rw [take_succ_map h]; exact List.mem_append_right _ (.head _)
  rw [ledOf_cut (j + 1) hm, ledOf_take h, ledStep, getA_append, getA_none (by rw [ledOf_names]; exact R.new), getA_cons, if_pos rfl]
  have e : ledTo ((ledOf (rs.take j)).map (·.1) ++ [r.name]) (ledOf (rs.take j)) r.needs = ledTo ((rs.take (j + 1)).map (·.name)) (ledOf rs) r.needs := by
    unfold ledTo
    rw [ledRaw_eq, ledRaw_eq, ledOf_names, take_succ_map h]
    congr 1
    exact fold_congr fun p hp => by rw [ledOf_cut j (R.known p hp)]
  rw [e]
theorem led_pos : ∀ p ∈ ledOf rs, Pos p.2 := by
  suffices h : ∀ (xs : List PRow) (ls : List (Str × List (Str × Int))), (∀ p ∈ ls, Pos p.2) → ∀ p ∈ xs.foldl ledStep ls, Pos p.2 from h rs [] (fun _ h => nomatch h)
  intro xs
  induction xs with
  | nil => intro ls h; exact h
  | cons r xs ih =>
    intro ls h
    refine ih _ fun p hp => ?_
    rcases List.mem_append.mp hp with hp | hp
    · exact h p hp
    · rw [List.mem_singleton] at hp
      subst hp
      exact fun y hy => of_decide_eq_true (List.mem_filter.mp hy).2
/-- what a row's needs come to, counted from nothing -/
def total (rs : List PRow) (needs : List (Str × Int)) : List (Str × Int) := needs.foldl (lawStep (ledN rs)) []
theorem led_at (G : GoodBook rs) {s : Str} (h : s ∈ rs.map (·.name)) : getA (ledOf rs) s = some (ledN rs s) ∧ ((ledN rs s).map (·.1)).Nodup ∧ Pos (ledN rs s) ∧ ∀ y ∈ ledN rs s, y.1 ∈ rs.map (·.name) := by
  obtain ⟨m, hm⟩ := getA_of_mem (l := ledOf rs) (s := s) (by rw [ledOf_names]; exact h)
  have e : ledN rs s = m := by unfold ledN; rw [hm]; rfl
  rw [e]
  refine ⟨hm, G.nd.sublist (G.led_all _ (getA_mem hm)), led_pos _ (getA_mem hm), fun y hy => ?_⟩
  exact (G.led_all _ (getA_mem hm)).subset (List.mem_map.mpr ⟨y, hy, rfl⟩)
theorem total_fine (G : GoodBook rs) {needs : List (Str × Int)} (hn : ∀ x ∈ needs, x.1 ∈ rs.map (·.name)) : Fine (rs.map (·.name)) (total rs needs) :=
  lawFold_fine hn (fun p hp => (led_at G (hn p hp)).2.2.2) (Fine.nil _)
theorem total_pos (G : GoodBook rs) {needs : List (Str × Int)} (hn : ∀ x ∈ needs, x.1 ∈ rs.map (·.name)) (hp : Pos needs) : Pos (total rs needs) := fold_pos hp (fun p h => (led_at G (hn p h)).2.2.1) fun _ h => nomatch h
theorem GoodBook.pos (G : GoodBook rs) {j : Nat} {r : PRow} (h : rs[j]? = some r) : Pos r.needs := fun y hy => by have := ((G.row j r h).many y hy).1; omega
theorem GoodBook.known_all (G : GoodBook rs) {j : Nat} {r : PRow} (h : rs[j]? = some r) : ∀ x ∈ r.needs, x.1 ∈ rs.map (·.name) := fun x hx => names_take ((G.row j r h).known x hx)
theorem GoodBook.led_total (G : GoodBook rs) {j : Nat} {r : PRow} (h : rs[j]? = some r) : Alk (ledN rs r.name) (total rs r.needs) := by
  have e : ledN rs r.name = ledTo ((rs.take (j + 1)).map (·.name)) (ledOf rs) r.needs := by unfold ledN; rw [G.ledAt h]; rfl
  have known := G.known_all h
  rw [e]
  have keys := ledRaw_keys (names := (rs.take (j + 1)).map (·.name)) (ls := ledOf rs) (needs := r.needs) fun x hx => ⟨mem_take_names (Nat.le_succ j) ((G.row j r h).known x hx), fun m hm z hz => by
    rw [ledOf_cut j ((G.row j r h).known x hx)] at hm
    exact mem_take_names (Nat.le_succ j) (G.known j _ (getA_mem hm) z hz)⟩
  have nn : Nng (ledRaw ((rs.take (j + 1)).map (·.name)) (ledOf rs) r.needs) := by
    rw [ledRaw_eq]
    refine fold_nng (G.pos h) (fun p hp => (led_at G (known p hp)).2.2.1) fun y hy => ?_
    obtain ⟨s, _, rfl⟩ := List.mem_map.mp hy
    exact Int.le_refl _
  intro t
  unfold ledTo
  rw [filter_alk (by rw [keys]; exact G.nodup _) nn t, ledRaw_eq]
  refine fold_alk (fun p hp => ?_) (fun t => ?_) t
  · obtain ⟨h1, h2, _⟩ := led_at G (known p hp)
    rw [show (getA (ledOf rs) p.1).getD [] = ledN rs p.1 from rfl]
    exact ⟨h2, h2, fun _ => rfl⟩
  · unfold valA
    cases e : getA (((rs.take (j + 1)).map (·.name)).map fun s => ((s, 0) : Str × Int)) t with
    | none => rfl
    | some v =>
      obtain ⟨s, _, hs⟩ := List.mem_map.mp (getA_mem e)
      cases hs
      rfl
/-- the law's own count of some needs -/
theorem lawLed_total (G : GoodBook rs) : ∀ (n : Nat) (needs : List (Str × Int)), (∀ x ∈ needs, x.1 ∈ (rs.take n).map (·.name)) → Alk (lawLed rs n needs) (total rs needs)
  | 0, needs, h => by
    cases needs with
    | nil => exact fun _ => rfl
    | cons p needs => have := h p (.head _); cases this
  | n + 1, needs, h => by
    refine fold_alk (fun p hp => ?_) fun _ => rfl
    obtain ⟨r, hr, e, _, hn, _⟩ := G.at (h p hp)
    obtain ⟨j, hj⟩ := List.getElem?_of_mem hr
    rw [← e, needsOf_row G hr]
    refine ⟨(lawLed_fine G n r.needs hn).nd, ?_, fun t => ?_⟩
    · rw [e]; exact (led_at G (names_take (h p hp))).2.1
    · rw [lawLed_total G n r.needs hn t, G.led_total hj t]
theorem lawLed_pos (G : GoodBook rs) : ∀ (n : Nat) (needs : List (Str × Int)), (∀ x ∈ needs, x.1 ∈ (rs.take n).map (·.name)) → Pos needs → Pos (lawLed rs n needs)
  | 0, _, _, _ => fun _ h => nomatch h
  | n + 1, needs, h, hp => by
    refine fold_pos hp (fun p hq => ?_) fun _ h => nomatch h
    obtain ⟨r, hr, e, _, hn, hb, _⟩ := G.at (h p hq)
    rw [← e, needsOf_row G hr]
    exact lawLed_pos G n r.needs hn fun y hy => by have := (hb y hy).1; omega
end
end PM

/-! a book grows -/
namespace PM
open PySem L2
section
variable {rs : List PRow}
theorem ledTo_total (G : GoodBook rs) {nm : Str} (hnm : nm ∉ rs.map (·.name)) {needs : List (Str × Int)} (hn : ∀ x ∈ needs, x.1 ∈ rs.map (·.name)) (hp : Pos needs) :
    ((ledTo ((ledOf rs).map (·.1) ++ [nm]) (ledOf rs) needs).map (·.1)).Nodup ∧ Pos (ledTo ((ledOf rs).map (·.1) ++ [nm]) (ledOf rs) needs) ∧ Alk (ledTo ((ledOf rs).map (·.1) ++ [nm]) (ledOf rs) needs) (total rs needs) := by
  rw [ledOf_names]
  have hk : ∀ x ∈ needs, x.1 ∈ rs.map (·.name) ++ [nm] ∧ ∀ m, getA (ledOf rs) x.1 = some m → ∀ y ∈ m, y.1 ∈ rs.map (·.name) ++ [nm] := fun x hx => ⟨List.mem_append_left _ (hn x hx), fun m hm z hz => List.mem_append_left _ ((G.led_all _ (getA_mem hm)).subset (List.mem_map.mpr ⟨z, hz, rfl⟩))⟩
  have keys := ledRaw_keys hk
  have nd : (rs.map (·.name) ++ [nm]).Nodup := by
    refine List.nodup_append.mpr ⟨G.nd, List.nodup_cons.mpr ⟨(by simp), List.nodup_nil⟩, ?_⟩
    intro a ha b hb hab
    rw [List.mem_singleton] at hb
    subst hb hab
    exact hnm ha
  have nn : Nng (ledRaw (rs.map (·.name) ++ [nm]) (ledOf rs) needs) := by
    rw [ledRaw_eq]
    refine fold_nng hp (fun p hp => (led_at G (hn p hp)).2.2.1) fun y hy => ?_
    obtain ⟨s, _, rfl⟩ := List.mem_map.mp hy
    exact Int.le_refl _
  refine ⟨nd.sublist (ledTo_sub hk), fun y hy => of_decide_eq_true (List.mem_filter.mp hy).2, fun t => ?_⟩
  unfold ledTo
  rw [filter_alk (by rw [keys]; exact nd) nn t, ledRaw_eq]
  refine fold_alk (fun p hp => ?_) (fun t => ?_) t
  · obtain ⟨h1, h2, _⟩ := led_at G (hn p hp)
    rw [show (getA (ledOf rs) p.1).getD [] = ledN rs p.1 from rfl]
    exact ⟨h2, h2, fun _ => rfl⟩
  · unfold valA
    cases e : getA ((rs.map (·.name) ++ [nm]).map fun s => ((s, 0) : Str × Int)) t with
    | none => rfl
    | some v =>
      obtain ⟨s, _, hs⟩ := List.mem_map.mp (getA_mem e)
      cases hs
      rfl
theorem GoodBook.snoc (G : GoodBook rs) (h12 : rs.length < 12) {r : PRow} (R : GoodRow (rs.map (·.name)) r) {n : Nat} (hn : rs.length ≤ n) (hs : ((lawLed rs n r.needs).map (·.2)).sum ≤ 200) : GoodBook (rs ++ [r]) := by
  have hp : Pos r.needs := fun y hy => by have := (R.many y hy).1; omega
  have hk : ∀ x ∈ r.needs, x.1 ∈ (rs.take n).map (·.name) := fun x hx => by rw [List.take_of_length_le hn]; exact R.known x hx
  obtain ⟨q1, q2, q3⟩ := ledTo_total G R.new R.known hp
  have es : ((ledTo ((ledOf rs).map (·.1) ++ [r.name]) (ledOf rs) r.needs).map (·.2)).sum = ((lawLed rs n r.needs).map (·.2)).sum :=
    alk_sum q1 (lawLed_fine G n r.needs hk).nd q2 (lawLed_pos G n r.needs hk hp) fun t => by rw [q3 t, lawLed_total G n r.needs hk t]
  refine ⟨by rw [List.length_append, List.length_singleton]; omega, fun i x hi => ?_, fun p hp => ?_⟩
  · by_cases h : i < rs.length
    · rw [List.getElem?_append_left h] at hi
      rw [List.take_append_of_le_length (by omega)]
      exact G.row i x hi
    · have : i = rs.length := by
        have := (List.getElem?_eq_some_iff.mp hi).1
        rw [List.length_append, List.length_singleton] at this
        omega
      subst this
      rw [List.getElem?_append_right (Nat.le_refl _), Nat.sub_self] at hi
      cases hi
      rw [List.take_left]
      exact R
  · rw [ledOf_snoc] at hp
    rcases List.mem_append.mp hp with hp | hp
    · exact G.led p hp
    · rw [List.mem_singleton] at hp
      subst hp
      rw [es]
      exact hs
theorem GoodBook.nil : GoodBook [] := ⟨by decide, fun i r h => by simp at h, fun p h => nomatch h⟩
/-- a book cut -/
theorem GoodBook.cut (G : GoodBook rs) (n : Nat) : GoodBook (rs.take n) := by
  refine ⟨by have := G.len; rw [List.length_take]; omega, fun i r hi => ?_, fun p hp => G.led p (ledOf_sub n p hp)⟩
  have hin : i < n := by
    have := (List.getElem?_eq_some_iff.mp hi).1
    rw [List.length_take] at this
    omega
  rw [List.getElem?_take_of_lt hin] at hi
  rw [List.take_take, Nat.min_eq_left (Nat.le_of_lt hin)]
  exact G.row i r hi
end
/-- the law's names -/
abbrev signs12 : Str := "abcdefghijkl"
def nameAt (k : Nat) : Str := ("p" : Str) ++ ⟨#[signs12.cps.toList.getD k 0]⟩
theorem nameAt_ok : ∀ k : Fin 12, isNameM (nameAt k) = true := by decide +kernel
theorem nameAt_ne : ∀ i j : Fin 12, nameAt i = nameAt j → i = j := by decide +kernel
/-- the books the law makes -/
structure MyBook (rs : List PRow) : Prop where
  good : GoodBook rs
  names : ∀ i r, rs[i]? = some r → r.name = nameAt i
theorem MyBook.new {rs : List PRow} (M : MyBook rs) (h : rs.length < 12) : nameAt rs.length ∉ rs.map (·.name) := by
  intro z
  obtain ⟨r, hr, e⟩ := List.mem_map.mp z
  obtain ⟨i, hi⟩ := List.getElem?_of_mem hr
  have hl := (List.getElem?_eq_some_iff.mp hi).1
  rw [M.names i r hi] at e
  have := nameAt_ne ⟨i, by omega⟩ ⟨rs.length, h⟩ e
  have := Fin.mk.inj this
  omega
theorem MyBook.snoc {rs : List PRow} (M : MyBook rs) (h12 : rs.length < 12) {r : PRow} (hr : r.name = nameAt rs.length) (lot : 1 ≤ r.lot ∧ r.lot ≤ 99) (lead : 0 ≤ r.lead ∧ r.lead ≤ 30) (nd : (r.needs.map (·.1)).Nodup) (known : ∀ x ∈ r.needs, x.1 ∈ rs.map (·.name))
    (many : ∀ x ∈ r.needs, 1 ≤ x.2 ∧ x.2 ≤ 9) (few : r.steps.length ≤ 5) (steps : ∀ x ∈ r.steps, (0 ≤ x.1 ∧ x.1 < 6) ∧ 1 ≤ x.2 ∧ x.2 ≤ 99) {n : Nat} (hn : rs.length ≤ n) (hs : ((lawLed rs n r.needs).map (·.2)).sum ≤ 200) : MyBook (rs ++ [r]) := by
  refine ⟨M.good.snoc h12 ⟨by rw [hr]; exact nameAt_ok ⟨rs.length, h12⟩, by rw [hr]; exact M.new h12, lot, lead, nd, known, many, few, steps⟩ hn hs, fun i x hi => ?_⟩
  by_cases h : i < rs.length
  · rw [List.getElem?_append_left h] at hi
    exact M.names i x hi
  · have : i = rs.length := by
      have := (List.getElem?_eq_some_iff.mp hi).1
      rw [List.length_append, List.length_singleton] at this
      omega
    subst this
    rw [List.getElem?_append_right (Nat.le_refl _), Nat.sub_self] at hi
    cases hi
    exact hr
structure NsOk (rs : List PRow) (ns : List (Str × Int)) : Prop where
  nd : (ns.map (·.1)).Nodup
  known : ∀ x ∈ ns, x.1 ∈ rs.map (·.name)
  many : ∀ x ∈ ns, 1 ≤ x.2 ∧ x.2 ≤ 9
theorem NsOk.nil (rs : List PRow) : NsOk rs [] := ⟨List.nodup_nil, (fun _ h => nomatch h), (fun _ h => nomatch h)⟩
theorem NsOk.rev {rs : List PRow} {ns : List (Str × Int)} (h : NsOk rs ns) : NsOk rs ns.reverse := ⟨by rw [List.map_reverse]; exact (List.reverse_perm _).nodup_iff.mpr h.nd, fun x hx => h.known x (List.mem_reverse.mp hx), fun x hx => h.many x (List.mem_reverse.mp hx)⟩
theorem NsOk.len {rs : List PRow} {ns : List (Str × Int)} (h : NsOk rs ns) : ns.length ≤ rs.length := by
  have := nodup_sub_length h.nd (l' := rs.map (·.name)) fun x hx => by
    obtain ⟨y, hy, rfl⟩ := List.mem_map.mp hx
    exact h.known y hy
  simpa using this
def StOk (st : List (Int × Int)) : Prop := st.length ≤ 5 ∧ ∀ x ∈ st, (0 ≤ x.1 ∧ x.1 < 6) ∧ 1 ≤ x.2 ∧ x.2 ≤ 99
end PM

/-! what the law asks -/
namespace PM
open PySem L2
section
variable {rs : List PRow}
theorem nameAt_shp : ∀ k : Fin 12, (nameAt k).cps.all (· < 0x110000) = true := by decide +kernel
theorem MyBook.shp (M : MyBook rs) {z : Str} (h : z ∈ rs.map (·.name)) : z.cps.all (· < 0x110000) = true := by
  obtain ⟨r, hr, rfl⟩ := List.mem_map.mp h
  obtain ⟨i, hi⟩ := List.getElem?_of_mem hr
  rw [M.names i r hi]
  have := (List.getElem?_eq_some_iff.mp hi).1
  have := M.good.len
  exact nameAt_shp ⟨i, by omega⟩
theorem led_get (G : GoodBook rs) {j : Nat} {r : PRow} (h : rs[j]? = some r) : (ledOf rs)[j]? = some (r.name, ledN rs r.name) := by
  have e1 : ((ledOf rs).map (·.1))[j]? = some r.name := by rw [ledOf_names, List.getElem?_map, h]; rfl
  rw [List.getElem?_map] at e1
  obtain ⟨y, hy, e⟩ := Option.map_eq_some_iff.mp e1
  have nd : ((ledOf rs).map (·.1)).Nodup := by rw [ledOf_names]; exact G.nd
  have h2 := getA_nodup (List.mem_of_getElem? hy) nd
  have h3 : ledN rs r.name = y.2 := by unfold ledN; rw [← e, h2]; rfl
  rw [hy, h3, ← e]
theorem total_before (G : GoodBook rs) {j : Nat} {r : PRow} (h : rs[j]? = some r) : Fine ((rs.take j).map (·.name)) (total rs r.needs) := by
  have R := G.row j r h
  refine lawFold_fine R.known (fun p hp y hy => ?_) (Fine.nil _)
  have h1 : p.1 ∈ (rs.take j).map (·.name) := R.known p hp
  have e := (led_at G (names_take h1)).1
  rw [ledOf_cut j h1] at e
  exact G.known j _ (getA_mem e) y hy
theorem led_before (G : GoodBook rs) {j : Nat} {r : PRow} (h : rs[j]? = some r) {y : Str × Int} (hy : y ∈ ledN rs r.name) : y.1 ∉ (rs.map (·.name)).drop j := by
  obtain ⟨_, h2, h3, _⟩ := led_at G (s := r.name) (List.mem_map.mpr ⟨r, List.mem_of_getElem? h, rfl⟩)
  have hm := getA_mem (alk_mem h2 h3 (G.led_total h) hy)
  have hin := (total_before G h).sub _ hm
  intro z
  have nd := G.nd
  rw [← List.take_append_drop j (rs.map (·.name))] at nd
  rw [List.map_take] at hin
  exact (List.nodup_append.mp nd).2.2 _ hin _ z rfl
theorem led_same (G : GoodBook rs) {j : Nat} {r : PRow} (h : rs[j]? = some r) : (kvI (ledN rs r.name)).length = (kvI (total rs r.needs)).length ∧ ∀ p ∈ kvI (ledN rs r.name), valV (kvI (total rs r.needs)) p.1 = some p.2 ∧ flatB p.2 = true := by
  obtain ⟨_, h2, h3, _⟩ := led_at G (s := r.name) (List.mem_map.mpr ⟨r, List.mem_of_getElem? h, rfl⟩)
  refine ⟨?_, fun p hp => ?_⟩
  · rw [List.length_map, List.length_map]
    exact alk_len h2 (total_before G h).nd h3 (total_pos G (G.known_all h) (G.pos h)) (G.led_total h)
  · obtain ⟨y, hy, rfl⟩ := List.mem_map.mp hp
    rw [valV_kvI, alk_mem h2 h3 (G.led_total h) hy]
    exact ⟨rfl, rfl⟩
theorem one_enc (m : List (Str × Int)) : (m.map fun p => encNeed (p.1, 1 * p.2)) = m.map fun p => PyData.tuple [.str p.1, .int p.2] := by
  refine List.map_congr_left fun p _ => ?_
  show PyData.tuple [.str p.1, .int (1 * p.2)] = _
  rw [Int.one_mul]
end
end PM

local macro_rules | `(tactic| kts_caughtN) => `(tactic| first
  | with_reducible assumption
  | ((with_reducible refine' WK.Ex.ap ?kx ?ky); (case kx => with_reducible assumption); (case ky => kts_caughtN))
  | ((with_reducible refine' WK.Ex.sqL ?kx ?ky); (case kx => with_reducible assumption); (case ky => kts_caughtN))
  | ((with_reducible refine' WK.Ex.sqT ?kx ?ky); (case kx => with_reducible assumption); (case ky => kts_caughtN))
  | ((with_reducible refine' L2.Dp.up ?kx ?ky); (case kx => with_reducible assumption); (case ky => kts_caughtN))
  | ((with_reducible refine' WK.Dpl.up ?kx ?ky); (case kx => with_reducible assumption); (case ky => kts_caughtN))
  | ((with_reducible refine' L2.DpAll.up ?kx ?ky); (case kx => with_reducible assumption); (case ky => kts_caughtN)))
local macro_rules | `(tactic| kts_caught) => `(tactic| first
  | with_reducible assumption
  | ((with_reducible refine' WK.Ok.mem ?kx ?ky); (case kx => with_reducible assumption); (case ky => mem_news))
  | ((with_reducible refine' WK.Ok.sqMem ?kx ?ky); (case kx => with_reducible assumption); (case ky => mem_news))
  | ((with_reducible refine' WK.Ok.sqStay ?kx ?ky); (case kx => with_reducible assumption); (case ky => kts_caughtN))
  | ((with_reducible refine' WK.Ok.sqB ?kx ?ky); (case kx => with_reducible assumption); (case ky => kts_caughtN))
  | ((with_reducible refine' WK.Ok.tqStay ?kx ?ky); (case kx => with_reducible assumption); (case ky => kts_caughtN))
  | ((with_reducible refine' WK.Ok.tqB ?kx ?ky); (case kx => with_reducible assumption); (case ky => kts_caughtN))
  | ((with_reducible refine' WK.Ok.stay ?kx ?ky); (case kx => with_reducible assumption); (case ky => kts_caughtN))
  | ((with_reducible refine' WK.Ok.dp ?kx ?ky); (case kx => with_reducible assumption); (case ky => kts_caughtN))
  | ((with_reducible refine' WK.Ok.rdMem ?kx ?ky); (case kx => with_reducible assumption); (case ky => mem_news))
  | ((with_reducible refine' WK.Ok.rdMemF ?kx ?ky); (case kx => with_reducible assumption); (case ky => mem_news))
  | ((with_reducible refine' WK.Ok.rdStayF ?kx ?ky); (case kx => with_reducible assumption); (case ky => kts_caughtN))
  | ((with_reducible refine' WK.Ok.rdStay ?kx ?ky); (case kx => with_reducible assumption); (case ky => kts_caughtN))
  | ((with_reducible refine' WK.Ok.kept ?kx ?ky); (case kx => with_reducible assumption); (case ky => with_reducible assumption))
  | ((with_reducible refine' WK.Ok.keptRd ?kx ?ky); (case kx => with_reducible assumption); (case ky => with_reducible assumption)))
local macro_rules | `(tactic| nest_room) => `(tactic| first
  | with_reducible assumption
  | with_reducible exact WK.Ex.refl _
  | ((with_reducible refine' WK.Ex.trans ?kx ?ky); (case ky => with_reducible assumption); (case kx => nest_room)))
local macro_rules | `(tactic| nest_fact) => `(tactic| first
  | with_reducible assumption
  | ((with_reducible refine' L2.Dp.up ?kx ?ky); (case ky => with_reducible assumption); (case kx => nest_room))
  | ((with_reducible refine' L2.DpAll.up ?kx ?ky); (case ky => with_reducible assumption); (case kx => nest_room))
  | ((with_reducible refine' WK.Dpl.up ?kx ?ky); (case ky => with_reducible assumption); (case kx => nest_room))
  | ((with_reducible refine' WK.Ex.ap ?kx ?ky); (case ky => with_reducible assumption); (case kx => nest_room))
  | ((with_reducible refine' WK.Ex.sqL ?kx ?ky); (case ky => with_reducible assumption); (case kx => nest_room))
  | ((with_reducible refine' WK.Ex.sqT ?kx ?ky); (case ky => with_reducible assumption); (case kx => nest_room))
  | nest_room)
local macro_rules | `(tactic| tb_rel) => `(tactic| first
  | ((with_reducible show WK.OpU _ _ _ _ _ _ _ _); first
    | ((with_reducible show WK.OpU _ _ _ (PySem.binaryOp PySem.Operator.Add) (L2.V.int _) (L2.V.int _) _ _); refine' WK.v_add ?_)
    | ((with_reducible show WK.OpU _ _ _ (PySem.binaryOp PySem.Operator.Sub) (L2.V.int _) (L2.V.int _) _ _); refine' WK.v_sub ?_)
    | ((with_reducible show WK.OpU _ _ _ (PySem.binaryOp PySem.Operator.Mult) (L2.V.int _) (L2.V.int _) _ _); (refine' WK.v_mul ?k1 ?_); (case k1 => first | exact Or.inr ⟨by decide, by decide⟩ | exact Or.inl ⟨by decide, by decide⟩ | exact Or.inr ⟨by omega, by omega⟩ | exact Or.inl ⟨by omega, by omega⟩))
    | ((with_reducible show WK.OpU _ _ _ (PySem.binaryOp PySem.Operator.Mod) (L2.V.int _) (L2.V.int _) _ _); (refine' WK.v_mod ?k1 ?_); (case k1 => first | decide | omega | (simp only [List.length_map, List.length_append, List.length_cons, List.length_nil, List.length_set]; omega)))
    | ((with_reducible show WK.OpU _ _ _ (PySem.binaryOp PySem.Operator.FloorDiv) (L2.V.int _) (L2.V.int _) _ _); (refine' WK.v_fdiv ?k1 ?_); (case k1 => first | exact ⟨by decide, by decide⟩ | exact ⟨by omega, by omega⟩ | exact ⟨by simp only [List.length_map]; omega, by simp only [List.length_map]; omega⟩))
    | ((with_reducible show WK.OpU _ _ _ (PySem.binaryOp PySem.Operator.Pow) (L2.V.int _) (L2.V.int _) _ _); (refine' WK.v_pow ?k1 ?_); (case k1 => exact ⟨by decide, by decide, by decide⟩))
    | ((with_reducible show WK.OpU _ _ _ (PySem.compareOp PySem.CmpOp.Lt) (L2.V.int _) (L2.V.int _) _ _); refine' WK.v_lt ?_)
    | ((with_reducible show WK.OpU _ _ _ (PySem.compareOp PySem.CmpOp.LtE) (L2.V.int _) (L2.V.int _) _ _); refine' WK.v_le ?_)
    | ((with_reducible show WK.OpU _ _ _ (PySem.compareOp PySem.CmpOp.Gt) (L2.V.int _) (L2.V.int _) _ _); refine' WK.v_gt ?_)
    | ((with_reducible show WK.OpU _ _ _ (PySem.compareOp PySem.CmpOp.GtE) (L2.V.int _) (L2.V.int _) _ _); refine' WK.v_ge ?_)
    | ((with_reducible show WK.OpU _ _ _ (PySem.compareOp PySem.CmpOp.Eq) (L2.V.int _) (L2.V.int _) _ _); refine' WK.v_eqI ?_)
    | ((with_reducible show WK.OpU _ _ _ (PySem.compareOp PySem.CmpOp.Eq) (L2.V.str _) (L2.V.str _) _ _); refine' WK.v_eqS ?_)
    | ((with_reducible show WK.OpU _ _ _ (PySem.compareOp PySem.CmpOp.NotEq) (L2.V.int _) (L2.V.int _) _ _); refine' WK.v_neI ?_)
    | ((with_reducible show WK.OpU _ _ _ (PySem.compareOp PySem.CmpOp.NotEq) (L2.V.str _) (L2.V.str _) _ _); refine' WK.v_neS ?_)
    | ((with_reducible show WK.OpU _ _ _ (PySem.compareOp PySem.CmpOp.In) (L2.V.str (PySem.Str.mk (Array.mk [_]))) (L2.V.str _) _ _); refine' WK.v_inSign ?_)
    | ((with_reducible show WK.OpU _ _ _ (PySem.compareOp PySem.CmpOp.In) (L2.V.str _) (L2.V.ref _) _ _); (refine' WK.v_inDS ?k1 ?_); (case k1 => kts_caught))
    | ((with_reducible show WK.OpU _ _ _ (PySem.compareOp PySem.CmpOp.NotIn) (L2.V.str _) (L2.V.ref _) _ _); (refine' WK.v_notInDS ?k1 ?_); (case k1 => kts_caught)))
  | ((with_reducible show WK.IxU _ _ _ (L2.V.ref _) (L2.V.int _) _ _); (refine' WK.v_ixL ?k1 ?k2 ?_); (case k1 => kts_caught); (case k2 => exact rfl))
  | ((with_reducible show WK.IxU _ _ _ (L2.V.ref _) (L2.V.int _) _ _); (refine' WK.v_ixT ?k1 ?k2 ?_); (case k1 => kts_caught); (case k2 => exact rfl))
  | ((with_reducible show WK.FldQ _ _ _ (L2.V.ref _) _); (refine' WK.fldQ ?k1 ?k2 ?k3 ?k4 ?_); (case k1 => kts_caught); (case k2 => with_reducible assumption); (case k3 => with_reducible assumption); (case k4 => exact rfl))
  | ((with_reducible show WK.MetU _ _ _ "dict.get" (L2.V.ref _) [L2.V.str _, _] _ _); (refine' WK.v_get2S ?k1 ?_); (case k1 => kts_caught))
  | ((with_reducible show WK.IpU _ _ _ PySem.Operator.Add (L2.V.int _) (L2.V.int _) _ _); refine' WK.v_ipAdd ?_)
  | ((with_reducible show WK.IpU _ _ _ PySem.Operator.Sub (L2.V.int _) (L2.V.int _) _ _); refine' WK.v_ipSub ?_)
  | ((with_reducible show WK.CallU _ _ _ (PySem.Value.builtin "len") [L2.V.str _] _ _); (refine' WK.v_lenS ?k1 ?_); (case k1 => first | with_reducible assumption | (rw [PySem.sizeLine_eq]; omega) | (simp only [PySem.sizeLine_eq]; omega)))
  | ((with_reducible show WK.CallU _ _ _ (PySem.Value.builtin "len") [_] _ _); (refine' WK.v_lenDL ?k1 ?k2 ?_); (case k1 => with_reducible assumption); (case k2 => kts_caughtN))
  | ((with_reducible show WK.CallU _ _ _ (PySem.Value.builtin "len") [_] _ _); (refine' WK.v_lenDT ?k1 ?k2 ?_); (case k1 => with_reducible assumption); (case k2 => kts_caughtN))
  | ((with_reducible show WK.CallU _ _ _ (PySem.Value.builtin "len") [_] _ _); (refine' WK.v_lenDW ?k1 ?k2 ?_); (case k1 => with_reducible assumption); (case k2 => kts_caughtN))
  | ((with_reducible show WK.CallU _ _ _ (PySem.Value.builtin "len") [L2.V.ref _] _ _); (refine' WK.v_lenL ?k1 ?_); (case k1 => kts_caught))
  | ((with_reducible show WK.CallU _ _ _ (PySem.Value.builtin "len") [L2.V.ref _] _ _); (refine' WK.v_lenT ?k1 ?_); (case k1 => kts_caught))
  | ((with_reducible show WK.CallU _ _ _ (PySem.Value.builtin "max") [L2.V.int _, L2.V.int _] _ _); refine' WK.v_max2 ?_)
  | ((with_reducible show WK.CallU _ _ _ (PySem.Value.builtin "min") [L2.V.int _, L2.V.int _] _ _); refine' WK.v_min2 ?_))
local macro_rules | `(tactic| tb_start) => `(tactic| first
  | ((with_reducible show L2.tVar _ _ _ _); (refine' WK.r_var ?hh ?_); (case hh => exact rfl))
  | ((with_reducible show L2.tC _ _ _ _); refine' WK.r_c ?_)
  | ((with_reducible show L2.tOp _ _ _ _ _ _); refine' WK.r_op ?_)
  | ((with_reducible show L2.tCons _ _ _ _ _); refine' WK.r_cons ?_)
  | ((with_reducible show L2.tNil _ _ _); refine' WK.r_nil ?_)
  | ((with_reducible show L2.tCB _ _ _ _ _); refine' WK.r_cb ?_)
  | ((with_reducible show L2.tSeq _ _ _ _ _); refine' WK.r_seq ?_)
  | ((with_reducible show L2.tAsg _ _ _ _ _); refine' WK.r_asg ?_)
  | ((with_reducible show L2.gName _ _ _ _ _); (apply WK.r_nameS); (case h => repeat (first | exact WK.SlotSet.zero | apply WK.SlotSet.succ)))
  | ((with_reducible show WK.tMth _ _ _ _ _ _ _ _); refine' WK.r_mth ?_)
  | ((with_reducible show WK.MthQ _ _ _ _ _ _ (L2.V.ref _) _); (refine' WK.mthQ ?k1 ?k2 ?_); (case k1 => kts_caught); (case k2 => exact rfl))
  | ((with_reducible show WK.tMk _ _ _ _ _ _); refine' WK.r_mk ?_)
  | ((with_reducible show WK.tSumVals _ _ _ _); refine' WK.r_sumVals ?_)
  | ((with_reducible show L2.tBM _ _ _ _ _ _ _ _); refine' WK.r_bm ?_)
  | ((with_reducible show L2.tBM0 _ _ _ _ _ _ _); refine' WK.r_bm0 ?_)
  | ((with_reducible show WK.BmQ _ "str" _ _ _ _ (L2.V.str _) _); refine' WK.bmS ?_)
  | ((with_reducible show WK.BmQ _ "list" _ _ _ _ (L2.V.ref _) _); (refine' WK.bmL ?k1 ?_); (case k1 => kts_caught))
  | ((with_reducible show WK.BmQ _ "dict" _ _ _ _ (L2.V.ref _) _); (refine' WK.bmD ?k1 ?_); (case k1 => kts_caught))
  | ((with_reducible show WK.tFrzA _ _ _ _); refine' WK.r_frzA ?_)
  | ((with_reducible show L2.tRevL _ _ _ _ _); refine' WK.r_revL ?_)
  | ((with_reducible show L2.tTest _ _ _ _); refine' WK.r_test ?_)
  | ((with_reducible show L2.tB _ _ _ _); refine' WK.r_B ?_)
  | ((with_reducible show WK.BlQ _ (L2.V.bl _) _); refine' WK.r_bl ?_)
  | ((with_reducible show L2.tIfS _ _ _ _ _ _); refine' WK.r_ifS ?_)
  | ((with_reducible show L2.tRet _ _ _ _); refine' WK.r_ret ?_)
  | ((with_reducible show L2.tRetN _ _ _); refine' WK.r_retN ?_)
  | ((with_reducible show L2.tNext _ _ _); refine' WK.r_next ?_)
  | ((with_reducible show L2.tDrop _ _ _ _); refine' WK.r_drop ?_)
  | ((with_reducible show L2.tAnd _ _ _ _ _); refine' WK.r_and ?_)
  | ((with_reducible show L2.tOr _ _ _ _ _); refine' WK.r_or ?_)
  | ((with_reducible show L2.tNot _ _ _ _); refine' WK.r_not ?_)
  | ((with_reducible show L2.tAndV _ _ _ _ _); refine' WK.r_andV ?_)
  | ((with_reducible show L2.tOrV _ _ _ _ _); refine' WK.r_orV ?_)
  | ((with_reducible show L2.tNotV _ _ _ _); refine' WK.r_notV ?_)
  | ((with_reducible show L2.tIf _ _ _ _ _ _); refine' WK.r_if ?_)
  | ((with_reducible show L2.tChain _ _ _ _ _ _ _ _); refine' WK.r_chain ?_)
  | ((with_reducible show L2.gSub _ _ _ _ _ _ _); refine' WK.r_gsub ?_)
  | ((with_reducible show L2.gCons _ _ (_ :: _) _ _ _); refine' WK.r_gcons ?_)
  | ((with_reducible show L2.gNil [] _ _ _); refine' WK.r_gnil ?_)
  | ((with_reducible show L2.tPar _ _ _ _ _ _); refine' WK.r_par ?_)
  | ((with_reducible show WK.PrQ _ [_, _] _); refine' WK.r_par2 ?_)
  | ((with_reducible show WK.tFn _ _ _ _ _); refine' WK.r_fn ?_)
  | ((with_reducible show L2.tTup _ _ _ _); refine' WK.r_tup ?_)
  | ((with_reducible show L2.tLst _ _ _ _); refine' WK.r_lst ?_)
  | ((with_reducible show L2.tSl _ _ _ _ _ _ _); refine' WK.r_sl ?_)
  | ((with_reducible show L2.tNoPart _ _ _); refine' WK.r_nopart ?_)
  | ((with_reducible show L2.tPart _ _ _ _); refine' WK.r_part ?_)
  | ((with_reducible show WK.InQ _ (L2.V.int _) _); refine' WK.r_in ?_)
  | ((with_reducible show L2.tUn _ _ _ _ _); refine' WK.r_un ?_)
  | ((with_reducible show L2.rU _ (L2.V.int _) _ _); refine' WK.r_rU ?_)
  | ((with_reducible show L2.tFor _ _ _ _ _ _); refine' WK.r_for ?_)
  | ((with_reducible show L2.tLc _ _ _ _ _ _ _ _); refine' WK.r_lc ?_)
  | ((with_reducible show L2.tDc _ _ _ _ _ _ _ _ _); refine' WK.r_dc ?_)
  | ((with_reducible show WK.iVal _ _ _ _ _ _ _ _); refine' WK.r_val ?_)
  | ((with_reducible show L2.iRng1 _ _ _ _); refine' WK.r_rng1 ?_)
  | ((with_reducible show L2.iStr _ _ _ _); refine' WK.r_str ?_)
  | ((with_reducible show WK.StrQ _ (L2.V.str _) _); refine' WK.strQ ?_)
  | ((with_reducible show L2.iItems _ _ _ _); refine' WK.r_items ?_)
  | ((with_reducible show L2.iKeys _ _ _ _); refine' WK.r_keys ?_)
  | ((with_reducible show L2.iVals _ _ _ _); refine' WK.r_values ?_)
  | ((with_reducible show WK.iEnumV _ _ _ _ _); refine' WK.r_enumV ?_)
  | ((with_reducible show L2.tFld _ _ _ _ _ _); refine' WK.r_fld ?_)
  | ((with_reducible show L2.sFld _ _ _ _ _ _ _); refine' WK.r_sfld ?_)
  | ((with_reducible show L2.tYes _ _ _); refine' WK.r_yes ?_)
  | ((with_reducible show ite _ _ _); first
    | (with_reducible refine' WK.ifTT ?_)
    | (with_reducible refine' WK.ifFF ?_)
    | (with_reducible refine' WK.ifNT ?_)
    | (with_reducible refine' WK.ifNF ?_)
    | ((with_reducible refine' WK.ifdT ?k1 ?_); (case k1 => first | with_reducible assumption | omega | (simp only [List.length_map, List.length_append, List.length_cons, List.length_nil, List.length_set]; omega)))
    | ((with_reducible refine' WK.ifdF ?k1 ?_); (case k1 => first | with_reducible assumption | omega | (simp only [List.length_map, List.length_append, List.length_cons, List.length_nil, List.length_set]; omega)))
    | ((with_reducible refine' WK.ifndT ?k1 ?_); (case k1 => first | with_reducible assumption | omega | (simp only [List.length_map, List.length_append, List.length_cons, List.length_nil, List.length_set]; omega)))
    | ((with_reducible refine' WK.ifndF ?k1 ?_); (case k1 => first | with_reducible assumption | omega | (simp only [List.length_map, List.length_append, List.length_cons, List.length_nil, List.length_set]; omega))))
  | ((with_reducible show L2.tAug _ _ _ _ _ _); (refine' WK.r_aug ?hh ?_); (case hh => exact rfl))
  | ((with_reducible show L2.tAugS _ _ _ _ _ _ _ _ _); refine' WK.r_augS ?_)
  | tb_rel)

namespace LW
open PySem PySem.Spec PyProof.Rows L2 WK
def topS (i : Nat) : Stmt := PySem.Challenge.pw_partkin_k27_books_written_and_read.main.body.getD i (.Pass ⟨0, 0, 0, 0⟩)
abbrev s__law_mix : Stmt := topS 28
abbrev s__law_next : Stmt := topS 29
theorem sc__law_mix : FnScope ["_law_script", "_law_seed", "_law_mixed", "_law_cell"] ["_law_script", "_law_seed"] (defScope s__law_mix) := ⟨rfl, rfl, rfl, by decide +kernel, rfl, by decide +kernel, by decide +kernel⟩
theorem sc__law_next : FnScope ["_law_h", "_law_many", "_law_cell"] ["_law_h", "_law_many"] (defScope s__law_next) := ⟨rfl, rfl, rfl, by decide +kernel, rfl, by decide +kernel, by decide +kernel⟩
/-- the state that is drawn from -/
abbrev hL (p q : Addr) (m : Int) (cs : List Int) (k : Int) : Led := [(p, .lst [.int m, .ref q, .int k]), (q, .lst (cs.map V.int))]
section
variable {P : Program} {w : World} {K : PySem.W.Frag} {mg : Str → Option Value} {base : Heap}
def spMix (K : PySem.W.Frag) : Sp := fun vs H Q _ => ∃ (B : Hp) (a : Addr) (ns : List Int) (seed : Int), vs = [.ref a, .int seed] ∧ Ex B H ∧ SqL K B a (ns.map V.int) ∧ ns.length ≤ 63 ∧ 0 ≤ seed ∧ seed < 2147483647 ∧
  ∀ (m : Int) (p q : Addr) (B' H' : Hp), 0 ≤ m → m < 2147483647 → Ok ⟨B, H, []⟩ B' (hL p q m ns 0) H' → Q (.ref p) H'
theorem ok__law_mix {f : Addr} {fd : FuncData} (F : Fun K "_law_mix" "_law_mix" s__law_mix f fd) (n_list : mg "list" = none) : FnOk P w K mg base CX0 1 f fd ["_law_script", "_law_seed"] (spMix K) := by
  refine F.ok sc__law_mix (fun vs H Q E h => ?_) (fun cdv A outer s H vs Q E hr h => ?_)
  · obtain ⟨B, a, ns, seed, rfl, _⟩ := h
    rfl
  · obtain ⟨B, a, ns, seed, rfl, ex, hs, hl, h0, h1, k⟩ := h
    have S := Ok.start0 ex
    refine with_al (P := P) (w := w) (K := K) hr (fun al => ?_)
    refine ⟨_, (pss_cons (ps_asg (pv 1) (pg_name (i := 2) sc__law_mix.nd rfl (by first | exact Or.inl rfl | exact Or.inr rfl))) (pss_cons (ps_for PassesOwn.never rfl (pi_val al (pv 0)) (pg_name (i := 3) sc__law_mix.nd rfl (by first | exact Or.inl rfl | exact Or.inr rfl)) (pss_one (ps_asg (pe_op (opU al) (pe_op (opU al) (pe_op (opU al) (pe_op (opU al) (pv 2) pe_int) (pe_op (opU al) (pv 3) pe_int)) pe_int) pe_int) (pg_name (i := 2) sc__law_mix.nd rfl (by first | exact Or.inl rfl | exact Or.inr rfl))))) (pss_one (ps_ret (pe_lst (pa_cons (pv 2) (pa_cons (pe_callTy (callU al) (by rfl) n_list b_list (pa_cons (pv 0) pa_nil)) (pa_cons pe_int pa_nil)))))))), ?_⟩
    repeat tb_start
    refine forL (S.sqB hs) (fun i σ H' => ∃ (m : Int) (c : Option V), σ = [some (.ref a), some (.int seed), some (.int m), c] ∧ 0 ≤ m ∧ m < 2147483647 ∧ Ok ⟨B, H, []⟩ B [] H') ?_ ?_ ?_ ?_
    · rintro i σ H1 _ ⟨m, c, rfl, _, _, S1⟩
      exact S1.sqB hs
    · exact ⟨seed, none, rfl, h0, h1, S⟩
    · rintro i x σ H1 hx ⟨m, c, rfl, hm0, hm1, S1⟩
      obtain ⟨z, rfl⟩ : ∃ z, x = V.int z := by
        rw [List.getElem?_map] at hx
        cases e : ns[i]? with
        | none => rw [e] at hx; cases hx
        | some z => rw [e] at hx; exact ⟨z, (Option.some.inj hx).symm⟩
      repeat tb_start
      exact ⟨_, _, rfl, Int.emod_nonneg _ (by decide), Int.emod_lt_of_pos _ (by decide), S1⟩
    · rintro σ H1 ⟨m, c, rfl, hm0, hm1, S1⟩
      repeat tb_start
      refine v_listOf S1 (.inl (S1.sqB hs)) fun q H2 S2 => ?_
      repeat tb_start
      refine new_lst S2 (by simp [sizeLine_eq]) fun p H3 S3 => ?_
      exact k m p q _ _ hm0 hm1 S3
/-- the state behind a draw -/
structure HS (cs : List Int) (kk : Int) : Prop where
  len : cs.length ≤ 63
  pl : 0 ≤ kk
theorem mod_ix (n : Nat) (k : Int) : ∃ j : Nat, j < max 1 n ∧ (k % if (n : Int) > 1 then (n : Int) else 1) = (j : Int) := by
  have h : ∃ m : Nat, m = max 1 n ∧ (if (n : Int) > 1 then (n : Int) else 1) = (m : Int) := by
    refine ⟨max 1 n, rfl, ?_⟩
    split <;> omega
  obtain ⟨m, hm, e⟩ := h
  rw [e]
  have h0 : 0 ≤ k % (m : Int) := Int.emod_nonneg _ (by omega)
  have h1 : k % (m : Int) < m := Int.emod_lt_of_pos _ (by omega)
  exact ⟨(k % (m : Int)).toNat, by omega, by omega⟩
theorem item_of (cs : List Int) (j : Nat) (h : j < cs.length) : atI (List.map V.int cs) (j : Int) = some (.int (cs.getD j 0)) := by
  refine atI_nat ?_
  rw [List.getElem?_map, List.getD_eq_getElem?_getD, List.getElem?_eq_getElem h]
  rfl
def spNext : Sp := fun vs H Q _ => ∃ (B : Hp) (p q : Addr) (m : Int) (cs : List Int) (kk many : Int), vs = [.ref p, .int many] ∧ Ok ⟨B, H, [p, q]⟩ B (hL p q m cs kk) H ∧ HS cs kk ∧ 0 < many ∧ many < 1073741824 ∧
  ∀ (r m' : Int) (cs' : List Int) (kk' : Int) (H' : Hp), 0 ≤ r → r < many → HS cs' kk' → Ok ⟨B, H, [p, q]⟩ B (hL p q m' cs' kk') H' → Q (.int r) H'
theorem ok__law_next {f : Addr} {fd : FuncData} (F : Fun K "_law_next" "_law_next" s__law_next f fd) (n_max : mg "max" = none) (n_len : mg "len" = none) : FnOk P w K mg base CX0 1 f fd ["_law_h", "_law_many"] spNext := by
  refine F.ok sc__law_next (fun vs H Q E h => ?_) (fun cdv A outer s H vs Q E hr h => ?_)
  · obtain ⟨B, p, q, m, cs, kk, many, rfl, _⟩ := h
    rfl
  · obtain ⟨B, p, q, m, cs, kk, many, rfl, S, hS, h0, h1, k⟩ := h
    refine with_al (P := P) (w := w) (K := K) hr (fun al => ?_)
    refine ⟨_, (pss_cons (ps_asg (pe_ix (ixU al) (pe_op (opU al) (pe_ix (ixU al) (pv 0) pe_int (fun _ _ => rfl)) (pe_lst (pa_cons pe_int pa_nil))) (pe_op (opU al) (pe_ix (ixU al) (pv 0) pe_int (fun _ _ => rfl)) (pe_callB (callU al) (by rfl) n_max b_max (pa_cons pe_int (pa_cons (pe_callB (callU al) (by rfl) n_len b_len (pa_cons (pe_ix (ixU al) (pv 0) pe_int (fun _ _ => rfl)) pa_nil)) pa_nil)))) (fun _ _ => rfl)) (pg_name (i := 2) sc__law_next.nd rfl (by first | exact Or.inl rfl | exact Or.inr rfl))) (pss_cons (ps_if (pt_cmpR (opU al) (pv 2) (pe_op (opU al) pe_int pe_int) (nomark _)) (pss_cons (ps_asg (pe_op (opU al) (pv 2) (pv 1)) (pg_sub (pe_ix (ixU al) (pv 0) pe_int (fun _ _ => rfl)) (pe_op (opU al) (pe_ix (ixU al) (pv 0) pe_int (fun _ _ => rfl)) (pe_callB (callU al) (by rfl) n_len b_len (pa_cons (pe_ix (ixU al) (pv 0) pe_int (fun _ _ => rfl)) pa_nil))) (setU al))) (pss_one (ps_ret (pe_op (opU al) (pv 2) (pv 1))))) pss_nil) (pss_cons (ps_asg (pe_op (opU al) (pe_op (opU al) (pe_op (opU al) (pe_op (opU al) (pe_ix (ixU al) (pv 0) pe_int (fun _ _ => rfl)) pe_int) (pe_op (opU al) (pv 2) pe_int)) pe_int) pe_int) (pg_sub (pv 0) pe_int (setU al))) (pss_cons (ps_asg (pe_op (opU al) (pe_ix (ixU al) (pv 0) pe_int (fun _ _ => rfl)) pe_int) (pg_sub (pv 0) pe_int (setU al))) (pss_one (ps_ret (pe_op (opU al) (pe_op (opU al) (pe_ix (ixU al) (pv 0) pe_int (fun _ _ => rfl)) pe_int) (pv 1)))))))), ?_⟩
    repeat tb_start
    refine new_lst S (by decide) fun z H1 S1 => ?_
    repeat tb_start
    refine v_cat S1 (by kts_caught) (by kts_caught) ?_ fun z2 H2 S2 => ?_
    · have := hS.len
      rw [List.length_map, sizeLine_eq]
      show cs.length + 1 ≤ _
      omega
    repeat tb_start
    obtain ⟨c, hc, hc0⟩ : ∃ c : Int, atI (List.map V.int cs ++ [V.int 0]) (kk % if ((List.map V.int cs).length : Int) > 1 then ((List.map V.int cs).length : Int) else 1) = some (.int c) ∧ (cs = [] → c = 0) := by
      obtain ⟨j, hj, e⟩ := mod_ix cs.length kk
      refine ⟨(cs ++ [0]).getD j 0, ?_, fun z => ?_⟩
      · rw [List.length_map, e]
        have := item_of (cs ++ [0]) j (by simp; omega)
        rw [List.map_append] at this
        exact this
      · subst z
        have : j = 0 := by have := hj; simp at this; omega
        subst this
        rfl
    refine v_ixL (by kts_caught) hc ?_
    have S3 : Ok ⟨B, H, [p, q]⟩ B (hL p q m cs kk) H2 := S2.drop.drop
    repeat tb_start
    refine ifd (fun hbig => ?_) (fun hbig => ?_)
    · have hne : 0 < cs.length := by
        cases cs with
        | nil => rw [hc0 rfl] at hbig; exact absurd hbig (by decide)
        | cons _ _ => simp
      repeat tb_start
      obtain ⟨j, hj, ej⟩ : ∃ j : Nat, j < cs.length ∧ kk % ((List.map V.int cs).length : Int) = (j : Int) := by
        have h0 : 0 ≤ kk % (cs.length : Int) := Int.emod_nonneg _ (by omega)
        have h1 : kk % (cs.length : Int) < cs.length := Int.emod_lt_of_pos _ (by omega)
        exact ⟨(kk % (cs.length : Int)).toNat, by omega, by rw [List.length_map]; omega⟩
      refine v_setLN 1 S3 rfl (ixN_of ej (by rw [List.length_map]; exact hj)) fun H4 S4 => ?_
      repeat tb_start
      rw [← List.map_set] at S4
      exact k _ m (cs.set j (c / many)) kk _ (Int.emod_nonneg _ (by omega)) (Int.emod_lt_of_pos _ h0) ⟨by rw [List.length_set]; exact hS.len, hS.pl⟩ S4
    · repeat tb_start
      refine v_setLN 0 S3 rfl rfl fun H4 S4 => ?_
      repeat tb_start
      refine v_setLN 0 S4 rfl rfl fun H5 S5 => ?_
      repeat tb_start
      exact k _ _ cs (kk + 1) _ (Int.emod_nonneg _ (by omega)) (Int.emod_lt_of_pos _ h0) ⟨hS.len, by have := hS.pl; omega⟩ S5
end
end LW

namespace LW
open PySem PySem.Spec PyProof.Rows L2 WK PM
abbrev s_is_name : Stmt := topS 16
theorem sc_is_name : FnScope ["word", "sign"] ["word"] (defScope s_is_name) := ⟨rfl, rfl, rfl, by decide +kernel, rfl, by decide +kernel, by decide +kernel⟩
section
variable {P : Program} {w : World} {K : PySem.W.Frag} {mg : Str → Option Value} {base : Heap}
def spIsName : Sp := fun vs H Q _ => ∃ (B : Hp) (z : Str), vs = [.str z] ∧ Ex B H ∧ z.length ≤ 1000 ∧ ∀ B' H', Ok ⟨B, H, []⟩ B' [] H' → Q (.bl (isNameM z)) H'
theorem ok_is_name {f : Addr} {fd : FuncData} (F : Fun K "is_name" "is_name" s_is_name f fd) (n_len : mg "len" = none) (n_all : mg "all" = none) (c_MOST_SIGNS : GlI mg "MOST_SIGNS" 8) (c_LETTERS : GlS mg "LETTERS" letters) : FnOk P w K mg base CX0 1 f fd ["word"] spIsName := by
  refine F.ok sc_is_name (fun vs H Q E h => ?_) (fun cdv A outer s H vs Q E hr h => ?_)
  · obtain ⟨B, z, rfl, _⟩ := h
    rfl
  · obtain ⟨B, z, rfl, ex, hl, k⟩ := h
    have S := Ok.start0 ex
    refine with_al (P := P) (w := w) (K := K) hr (fun al => ?_)
    refine ⟨_, (pss_one (ps_ret (pe_and (pe_chain (opU al) (opU al) pe_int (pe_callB (callU al) (by rfl) n_len b_len (pa_cons (pv 0) pa_nil)) (pe_gi c_MOST_SIGNS rfl)) (pe_one (pe_callB (callU al) (by rfl) n_all b_all (pa_cons (pe_lc (own := [("sign", 1)]) al.calm sc_is_name.nd (pi_str (pv 0)) (blkOk_by (own := [("sign", 1)]) (N := ["word", "sign"]) (sc := (defScope s_is_name)) (by decide +kernel)) (fun _ _ _ _ _ => (pg_name (i := 1) sc_is_name.nd rfl (by first | exact Or.inl rfl | exact Or.inr rfl))) (fun _ _ _ _ _ => pts_nil) (fun _ _ _ _ _ => (pe_cmpR (opU al) (pv 1) (pe_gs c_LETTERS rfl) rfl))) pa_nil)))))), ?_⟩
    repeat tb_start
    refine ifd (fun c1 => ?_) (fun c1 => ?_)
    · repeat tb_start
      refine ifd (fun c2 => ?_) (fun c2 => ?_)
      · repeat tb_start
        have hz : z.cps.toList.length ≤ 1000 := hl
        refine lcD src_str S (fun i acc B' L' => L' = [] ∧ acc = (z.cps.toList.take i).map (fun c => V.bl (decide (c ∈ letters.cps.toList))) ∧ i ≤ 1000) ⟨rfl, rfl, by omega⟩ (fun _ _ _ _ _ _ _ => True.intro) ?_ ?_
        · rintro i c x acc B0 B1 L D H1 hc ⟨rfl, rfl, hi⟩ e S1 rfl
          repeat tb_start
          refine ⟨rfl, ?_⟩
          repeat tb_start
          have hi' : i < z.cps.toList.length := (List.getElem?_eq_some_iff.mp hc).1
          refine Acc.mk S1 (by rw [sizeLine_eq, List.length_map, List.length_take]; omega) ⟨rfl, ?_, by omega⟩
          rw [List.take_add_one, hc, List.map_append]
          rfl
        · rintro acc B1 L D H1 ⟨rfl, rfl, hi⟩ S1
          repeat tb_start
          refine v_all (bs := z.cps.toList.map fun c => decide (c ∈ letters.cps.toList)) (by rw [List.map_map]; rw [List.take_length] at S1; exact S1.sqMem (.head _)) ?_
          have e : isNameM z = (z.cps.toList.map fun c => decide (c ∈ letters.cps.toList)).all id := by
            unfold isNameM
            rw [decide_eq_true c1, decide_eq_true c2, Bool.true_and, Bool.true_and]
          repeat tb_start
          rw [← e]
          exact k _ _ S1.drop
      · repeat tb_start
        have e : isNameM z = false := by
          unfold isNameM
          rw [decide_eq_false c2, Bool.false_and, Bool.and_false]
        have q := k _ _ S
        rw [e] at q
        exact q
    · repeat tb_start
      have e : isNameM z = false := by
        unfold isNameM
        rw [decide_eq_false c1, Bool.false_and]
      have q := k _ _ S
      rw [e] at q
      exact q
end
end LW

namespace LW
open PySem PySem.Spec PyProof.Rows L2 WK PM
abbrev s_Parts_is_row : Stmt := inClass (topS 17) 1
theorem sc_Parts_is_row : FnScope ["self", "row", "name", "needs", "steps", "lot", "lead", "others", "part", "many", "machine", "minutes"] ["self", "row"] (defScope s_Parts_is_row) := ⟨rfl, rfl, rfl, by decide +kernel, rfl, by decide +kernel, by decide +kernel⟩
def spIsRow (K : PySem.W.Frag) (CP : Addr) : Sp := fun vs H Q _ => ∃ (B : Hp) (p dx a l : Addr) (v : V) (kvs : List (Key × V)) (names : List Str) (r : PRow), vs = [.ref p, v] ∧ Ex B H ∧ H p = some (.ins CP dx (fldsP a l)) ∧ Rd H a (.dK kvs) ∧ kvs.map (·.1) = names.map Sum.inr ∧
  Dp K B v (encRow r) ∧ GoodRow names r ∧ names.length ≤ 12 ∧ ∀ B' H', Ok ⟨B, H, []⟩ B' [] H' → Q (.bl true) H'
section
variable {P : Program} {w : World} {K : PySem.W.Frag} {mg : Str → Option Value} {base : Heap}
theorem ok_is_row {f CP : Addr} {fd : FuncData} (F : Fun K "is_row" "Parts.is_row" s_Parts_is_row f fd) (G_is_name : FnG P w K mg base 1 "is_name" ["word"] spIsName) (clP : Cls K CP) (nRows : NoAttr K CP "rows")
    (n_len : mg "len" = none) (n_all : mg "all" = none) (n_set : mg "set" = none) (c_MOST_LOT : GlI mg "MOST_LOT" 99) (c_MOST_LEAD : GlI mg "MOST_LEAD" 30) (c_MOST_NEED : GlI mg "MOST_NEED" 9) (c_MOST_STEPS : GlI mg "MOST_STEPS" 5)
    (c_MACHINES : GlI mg "MACHINES" 6) (c_MOST_MINUTES : GlI mg "MOST_MINUTES" 99) : FnOk P w K mg base CX0 2 f fd ["self", "row"] (spIsRow K CP) := by
  refine F.ok sc_Parts_is_row (fun vs H Q E h => ?_) (fun cdv A outer s H vs Q E hr h => ?_)
  · obtain ⟨B, p, dx, a, l, v, kvs, names, r, rfl, _⟩ := h
    rfl
  · obtain ⟨B, p, dx, a, l, v, kvs, names, r, rfl, ex, hp, ha, hk, hv, G, hn, k⟩ := h
    have S := Ok.start0 ex
    refine with_al (P := P) (w := w) (K := K) hr (fun al => ?_)
    refine ⟨_, (pss_cons (ps_asg (pv 1) (pg_tupU (n := 5) K (pgs_cons (pg_name (i := 2) sc_Parts_is_row.nd rfl (by first | exact Or.inl rfl | exact Or.inr rfl)) (pgs_cons (pg_name (i := 3) sc_Parts_is_row.nd rfl (by first | exact Or.inl rfl | exact Or.inr rfl)) (pgs_cons (pg_name (i := 4) sc_Parts_is_row.nd rfl (by first | exact Or.inl rfl | exact Or.inr rfl)) (pgs_cons (pg_name (i := 5) sc_Parts_is_row.nd rfl (by first | exact Or.inl rfl | exact Or.inr rfl)) (pgs_cons (pg_name (i := 6) sc_Parts_is_row.nd rfl (by first | exact Or.inl rfl | exact Or.inr rfl)) pgs_nil))))))) (pss_cons (ps_if (PW.pt (pw_or (pt_not (pt_val (pe_fn G_is_name (hr.mono (by first | decide | omega)) rfl (pa_cons (pv 2) pa_nil)))) (pw_or (pt_cmpR (opU al) (pv 2) (pe_fldU K (pv 0) rfl) rfl) (pw_or (pt_not (pt_chain (opU al) (opU al) pe_int (pv 5) (pe_gi c_MOST_LOT rfl))) (pw_or1 (pt_not (pt_chain (opU al) (opU al) pe_int (pv 6) (pe_gi c_MOST_LEAD rfl)))))))) (pss_one (ps_ret pe_bl)) pss_nil) (pss_cons (ps_setLc (i := 7) (own := [("part", 8), ("many", 9)]) al.calm sc_Parts_is_row.nd rfl rfl (sw_true rfl rfl rfl (by decide +kernel)) (pi_val al (pv 3)) (blkOk_by (own := [("part", 8), ("many", 9)]) (N := ["self", "row", "name", "needs", "steps", "lot", "lead", "others", "part", "many", "machine", "minutes"]) (sc := (defScope s_Parts_is_row)) (by decide +kernel)) (fun _ _ _ _ _ => (pg_tupU (n := 2) K (pgs_cons (pg_name (i := 8) sc_Parts_is_row.nd rfl (by first | exact Or.inl rfl | exact Or.inr rfl)) (pgs_cons (pg_name (i := 9) sc_Parts_is_row.nd rfl (by first | exact Or.inl rfl | exact Or.inr rfl)) pgs_nil)))) (fun _ _ _ _ _ => pts_nil) (fun _ _ _ _ _ => (pv 8))) (pss_cons (ps_if (PW.pt (pw_or (pt_cmpR (opU al) (pe_callB (callU al) (by rfl) n_len b_len (pa_cons (pe_callTy (callU al) (by rfl) n_set b_set (pa_cons (pv 7) pa_nil)) pa_nil)) (pe_callB (callU al) (by rfl) n_len b_len (pa_cons (pv 7) pa_nil)) (nomark _)) (pw_or1 (pt_not (pt_val (pe_callB (callU al) (by rfl) n_all b_all (pa_cons (pe_lc (own := [("part", 8)]) al.calm sc_Parts_is_row.nd (pi_val al (pv 7)) (blkOk_by (own := [("part", 8)]) (N := ["self", "row", "name", "needs", "steps", "lot", "lead", "others", "part", "many", "machine", "minutes"]) (sc := (defScope s_Parts_is_row)) (by decide +kernel)) (fun _ _ _ _ _ => (pg_name (i := 8) sc_Parts_is_row.nd rfl (by first | exact Or.inl rfl | exact Or.inr rfl))) (fun _ _ _ _ _ => pts_nil) (fun _ _ _ _ _ => (pe_cmpR (opU al) (pv 8) (pe_fldU K (pv 0) rfl) rfl))) pa_nil))))))) (pss_one (ps_ret pe_bl)) pss_nil) (pss_cons (ps_if (PW.pt (pw_or (pt_not (pt_val (pe_callB (callU al) (by rfl) n_all b_all (pa_cons (pe_lc (own := [("part", 8), ("many", 9)]) al.calm sc_Parts_is_row.nd (pi_val al (pv 3)) (blkOk_by (own := [("part", 8), ("many", 9)]) (N := ["self", "row", "name", "needs", "steps", "lot", "lead", "others", "part", "many", "machine", "minutes"]) (sc := (defScope s_Parts_is_row)) (by decide +kernel)) (fun _ _ _ _ _ => (pg_tupU (n := 2) K (pgs_cons (pg_name (i := 8) sc_Parts_is_row.nd rfl (by first | exact Or.inl rfl | exact Or.inr rfl)) (pgs_cons (pg_name (i := 9) sc_Parts_is_row.nd rfl (by first | exact Or.inl rfl | exact Or.inr rfl)) pgs_nil)))) (fun _ _ _ _ _ => pts_nil) (fun _ _ _ _ _ => (pe_chain (opU al) (opU al) pe_int (pv 9) (pe_gi c_MOST_NEED rfl)))) pa_nil)))) (pw_or1 (pt_cmpR (opU al) (pe_callB (callU al) (by rfl) n_len b_len (pa_cons (pv 4) pa_nil)) (pe_gi c_MOST_STEPS rfl) (nomark _))))) (pss_one (ps_ret pe_bl)) pss_nil) (pss_one (ps_ret (pe_callB (callU al) (by rfl) n_all b_all (pa_cons (pe_lc (own := [("machine", 10), ("minutes", 11)]) al.calm sc_Parts_is_row.nd (pi_val al (pv 4)) (blkOk_by (own := [("machine", 10), ("minutes", 11)]) (N := ["self", "row", "name", "needs", "steps", "lot", "lead", "others", "part", "many", "machine", "minutes"]) (sc := (defScope s_Parts_is_row)) (by decide +kernel)) (fun _ _ _ _ _ => (pg_tupU (n := 2) K (pgs_cons (pg_name (i := 10) sc_Parts_is_row.nd rfl (by first | exact Or.inl rfl | exact Or.inr rfl)) (pgs_cons (pg_name (i := 11) sc_Parts_is_row.nd rfl (by first | exact Or.inl rfl | exact Or.inr rfl)) pgs_nil)))) (fun _ _ _ _ _ => pts_nil) (fun _ _ _ _ _ => (pe_and (pe_chain (opU al) (opU al) pe_int (pv 10) (pe_gi c_MACHINES rfl)) (pe_one (pe_chain (opU al) (opU al) pe_int (pv 11) (pe_gi c_MOST_MINUTES rfl)))))) pa_nil))))))))), ?_⟩
    repeat tb_start
    obtain ⟨lo1, lo2⟩ := G.lot
    obtain ⟨le1, le2⟩ := G.lead
    have fs := G.few
    refine r_gtupRow S hv fun v2 v3 h2 h3 => ?_
    repeat tb_start
    have nl : r.name.length ≤ 1000 := by
      have := G.nm
      unfold isNameM at this
      simp only [Bool.and_eq_true, decide_eq_true_eq] at this
      omega
    refine ⟨B, r.name, rfl, S.ex, nl, fun B1 H1 T1 => ?_⟩
    have S1 := S.callP T1
    have e1 := T1.ex0
    repeat tb_start
    rw [G.nm]
    repeat tb_start
    have no : (valV kvs (.inr r.name)).isSome = false := valV_isSome_false (by
      rw [hk]
      intro z
      obtain ⟨x, hx, e⟩ := List.mem_map.mp z
      exact G.new (Sum.inr.inj e ▸ hx))
    rw [no]
    repeat tb_start
    have nlen : r.needs.length ≤ 12 := by
      have h1 := nodup_sub_length G.nd (l' := names) (by
        intro x hx
        obtain ⟨y, hy, rfl⟩ := List.mem_map.mp hx
        exact G.known y hy)
      rw [List.length_map] at h1
      omega
    refine lcPureT S1 (h2.up e1) (fun _ => true) (fun x => .str x.1) (by omega) ?_ ?_
    · intro x v B2 D acc H2 C Cs hx e2 S2 hv kC kS
      repeat tb_start
      refine r_gtupSI S2 hv ?_
      repeat tb_start
      refine ⟨rfl, ?_⟩
      repeat tb_start
      exact kC _ _ _ rfl (Ex.refl _) S2 (.str _)
    · intro D acc B2 H2 e2 S2 hacc
      rw [filter_tt] at hacc
      have hD' : DpAll K B2 acc ((r.needs.map (·.1)).map PyData.str) := by rw [List.map_map]; exact hacc
      obtain ⟨B3, e3, S3, hD⟩ := S2.toData hD'
      repeat tb_start
      refine v_setOfD S3 hD (by rw [List.length_map]; omega) fun p4 H4 S4 => ?_
      rw [unlike_strs G.nd] at S4
      repeat tb_start
      refine v_lenSet (S4.mem (.head _)) (by rw [List.length_map]; omega) ?_
      have S5 := S4.drop
      repeat tb_start
      refine lcPureL S5 hD (fun _ => true) (fun _ => .bool true) (by rw [List.length_map]; omega) ?_ ?_
      · intro x v B6 D6 acc6 H6 C Cs hx e6 S6 hv kC kS
        obtain rfl := hv.str_inv
        repeat tb_start
        refine ⟨rfl, ?_⟩
        repeat tb_start
        have yes : (valV kvs (.inr x)).isSome = true := valV_isSome_true (by
          rw [hk]
          obtain ⟨y, hy, rfl⟩ := List.mem_map.mp hx
          exact List.mem_map.mpr ⟨_, G.known y hy, rfl⟩)
        rw [yes]
        exact kC _ _ _ rfl (Ex.refl _) S6 (.bl _)
      · intro D6 acc6 B6 H6 e6 S6 hacc6
        rw [filter_tt] at hacc6
        obtain ⟨B7, e7, S7, hD7⟩ := S6.toData (ds := ((r.needs.map (·.1)).map fun _ => true).map PyData.bool) (by rw [List.map_map]; exact hacc6)
        repeat tb_start
        refine v_allD S7 hD7 ?_
        have all1 : (((r.needs.map (·.1)).map fun _ => true).all id) = true := by simp
        rw [all1]
        repeat tb_start
        refine lcPureT S7 (h2.up (e1.trans (e2.trans (e3.trans (e6.trans e7))))) (fun _ => true) (fun _ => .bool true) (by omega) ?_ ?_
        · intro x v B8 D8 acc8 H8 C Cs hx e8 S8 hv kC kS
          obtain ⟨m1, m2⟩ := G.many x hx
          repeat tb_start
          refine r_gtupSI S8 hv ?_
          repeat tb_start
          refine ⟨rfl, ?_⟩
          repeat tb_start
          rw [decide_eq_true m2]
          exact kC _ _ _ rfl (Ex.refl _) S8 (.bl _)
        · intro D8 acc8 B8 H8 e8 S8 hacc8
          rw [filter_tt] at hacc8
          obtain ⟨B9, e9, S9, hD9⟩ := S8.toData (ds := (r.needs.map fun _ => true).map PyData.bool) (by rw [List.map_map]; exact hacc8)
          repeat tb_start
          refine v_allD S9 hD9 ?_
          have all2 : ((r.needs.map fun _ => true).all id) = true := by simp
          rw [all2]
          repeat tb_start
          refine lcPureT S9 (h3.up (e1.trans (e2.trans (e3.trans (e6.trans (e7.trans (e8.trans e9))))))) (fun _ => true) (fun _ => .bool true) (by omega) ?_ ?_
          · intro x v Ba Da acca Ha C Cs hx ea Sa hv kC kS
            obtain ⟨⟨m1, m2⟩, m3, m4⟩ := G.steps x hx
            repeat tb_start
            refine r_gtupII Sa hv ?_
            repeat tb_start
            refine ⟨rfl, ?_⟩
            repeat tb_start
            rw [decide_eq_true m4]
            exact kC _ _ _ rfl (Ex.refl _) Sa (.bl _)
          · intro Da acca Ba Ha ea Sa hacca
            rw [filter_tt] at hacca
            obtain ⟨Bb, eb, Sb, hDb⟩ := Sa.toData (ds := (r.steps.map fun _ => true).map PyData.bool) (by rw [List.map_map]; exact hacca)
            repeat tb_start
            refine v_allD Sb hDb ?_
            have all3 : ((r.steps.map fun _ => true).all id) = true := by simp
            rw [all3]
            exact k _ _ Sb
end
end LW

namespace LW
open PySem PySem.Spec PyProof.Rows L2 WK PM
abbrev s_Parts_led_to : Stmt := inClass (topS 17) 2
theorem sc_Parts_led_to : FnScope ["self", "needs", "found", "part", "many", "other", "more"] ["self", "needs"] (defScope s_Parts_led_to) := ⟨rfl, rfl, rfl, by decide +kernel, rfl, by decide +kernel, by decide +kernel⟩
def spLedTo (K : PySem.W.Frag) (CP : Addr) : Sp := fun vs H Q _ => ∃ (B : Hp) (p dx a l : Addr) (v : V) (rkv lkv : List (Key × V)) (names : List Str) (ls : List (Str × List (Str × Int))) (needs : List (Str × Int)), vs = [.ref p, v] ∧ Ex B H ∧
  H p = some (.ins CP dx (fldsP a l)) ∧ H a = some (.dK rkv) ∧ B a = none ∧ rkv.map (·.1) = names.map Sum.inr ∧ names.Nodup ∧ names.length ≤ 12 ∧ Rd H l (.dK lkv) ∧ LedKV B lkv ls ∧ Dp K B v (.tuple (needs.map encNeed)) ∧
  (∀ x ∈ needs, x.1 ∈ names ∧ (1 ≤ x.2 ∧ x.2 ≤ 9) ∧ ∃ m, getA ls x.1 = some m ∧ ∀ y ∈ m, y.1 ∈ names) ∧
  ∀ D B' H', Ex B B' → Ok ⟨B, H, []⟩ B' [(D, .dK (kvI (ledTo names ls needs)))] H' → Q (.ref D) H'
section
variable {P : Program} {w : World} {K : PySem.W.Frag} {mg : Str → Option Value} {base : Heap}
theorem ok_led_to {f CP : Addr} {fd : FuncData} (F : Fun K "led_to" "Parts.led_to" s_Parts_led_to f fd) (clP : Cls K CP) (nRows : NoAttr K CP "rows") (nLed : NoAttr K CP "led") : FnOk P w K mg base CX0 1 f fd ["self", "needs"] (spLedTo K CP) := by
  refine F.ok sc_Parts_led_to (fun vs H Q E h => ?_) (fun cdv A outer s H vs Q E hr h => ?_)
  · obtain ⟨B, p, dx, a, l, v, rkv, lkv, names, ls, needs, rfl, _⟩ := h
    rfl
  · obtain ⟨B, p, dx, a, l, v, rkv, lkv, names, ls, needs, rfl, ex, hp, ha, hb, hk, nd, hn, hl, LK, hv, hx, k⟩ := h
    have S := Ok.start0 ex
    refine with_al (P := P) (w := w) (K := K) hr (fun al => ?_)
    refine ⟨_, (pss_cons (ps_lock (ps_setDc (i := 2) (own := [("part", 3)]) al.calm sc_Parts_led_to.nd rfl rfl (sw_trueD rfl rfl rfl (by decide +kernel)) (pi_keys (pe_fldU K (pv 0) rfl)) (blkOk_by (own := [("part", 3)]) (N := ["self", "needs", "found", "part", "many", "other", "more"]) (sc := (defScope s_Parts_led_to)) (by decide +kernel)) (fun _ _ _ _ _ => (pg_name (i := 3) sc_Parts_led_to.nd rfl (by first | exact Or.inl rfl | exact Or.inr rfl))) (fun _ _ _ _ _ => pts_nil) (fun _ _ _ _ _ => (pv 3)) (fun _ _ _ _ _ => pe_int))) (pss_cons (ps_for PassesOwn.never rfl (pi_val al (pv 1)) (pg_tupU (n := 2) K (pgs_cons (pg_name (i := 3) sc_Parts_led_to.nd rfl (by first | exact Or.inl rfl | exact Or.inr rfl)) (pgs_cons (pg_name (i := 4) sc_Parts_led_to.nd rfl (by first | exact Or.inl rfl | exact Or.inr rfl)) pgs_nil))) (pss_cons (ps_augS (pv 2) (pv 3) (getU al) (pv 4) (ipU al) (setU al)) (pss_one (ps_for PassesOwn.never rfl (pi_items (pe_ix (ixU al) (pe_fldU K (pv 0) rfl) (pv 3) (fun _ _ => rfl))) (pg_tupU (n := 2) K (pgs_cons (pg_name (i := 5) sc_Parts_led_to.nd rfl (by first | exact Or.inl rfl | exact Or.inr rfl)) (pgs_cons (pg_name (i := 6) sc_Parts_led_to.nd rfl (by first | exact Or.inl rfl | exact Or.inr rfl)) pgs_nil))) (pss_one (ps_augS (pv 2) (pv 5) (getU al) (pe_op (opU al) (pv 4) (pv 6)) (ipU al) (setU al))))))) (pss_one (ps_ret (pe_frz (pe_dc (own := [("part", 3), ("many", 4)]) al.calm sc_Parts_led_to.nd (pi_items (pv 2)) (blkOk_by (own := [("part", 3), ("many", 4)]) (N := ["self", "needs", "found", "part", "many", "other", "more"]) (sc := (defScope s_Parts_led_to)) (by decide +kernel)) (fun _ _ _ _ _ => (pg_tupU (n := 2) K (pgs_cons (pg_name (i := 3) sc_Parts_led_to.nd rfl (by first | exact Or.inl rfl | exact Or.inr rfl)) (pgs_cons (pg_name (i := 4) sc_Parts_led_to.nd rfl (by first | exact Or.inl rfl | exact Or.inr rfl)) pgs_nil)))) (fun _ _ _ _ _ => pts_one (pt_cmpR (opU al) (pv 4) pe_int (nomark _))) (fun _ _ _ _ _ => (pv 3)) (fun _ _ _ _ _ => (pv 4)))))))), ?_⟩
    repeat tb_start
    refine r_lockS ha trivial fun od => ?_
    have S1 := S.lock (od := od) ha hb (by simp)
    have hp1 : upd H a (.frz od (.dK rkv)) p = some (.ins CP dx (fldsP a l)) := by
      rw [upd_ne (fun z => by rw [z, ha] at hp; cases hp)]; exact hp
    repeat tb_start
    refine keyQ upd_same ?_
    refine dcPure src_keys S1 (fun B1 D acc e => .inr (.tail _ (.head _))) (fun _ => true) (fun q => (q, .int 0)) ?_ ?_ ?_ ?_
    · rw [List.map_id', hk]
      exact nodup_inr nd
    · rw [hk, List.length_map]; omega
    · intro q x B2 D acc H2 C Cs hq e2 S2 hv kC kS
      rw [hk] at hq
      obtain ⟨z, hz, rfl⟩ := List.mem_map.mp hq
      subst hv
      repeat tb_start
      refine ⟨rfl, ?_⟩
      repeat tb_start
      exact kC _ _ _ rfl rfl (Ex.refl _) S2
    · intro D B2 H2 e2 S2
      rw [filter_tt, hk] at S2
      have eq0 : ((names.map Sum.inr).map fun q : Key => ((q, .int 0) : Key × V)) = kvI (names.map fun s => (s, 0)) := by
        unfold kvI
        rw [List.map_map, List.map_map]; rfl
      rw [eq0] at S2
      have S3 := S2.swap
      obtain ⟨e0, S4⟩ := S.unlock ha hb (by simp) S3
      refine ⟨e0, ?_⟩
      repeat tb_start
      refine forDT S4 (hv.up e2) (fun i σ B1 L1 => ∃ x1 x2 x3 x4, σ = [some (.ref p), some v, some (.ref D), x1, x2, x3, x4] ∧ L1 = [(D, .dK (kvI ((needs.take i).foldl (needStep ls) (names.map fun s => (s, 0)))))]) ?_ ?_ ?_
      · exact ⟨_, _, _, _, rfl, rfl⟩
      · rintro i x xv σ B1 B3 L1 H3 hget ⟨_, _, _, _, rfl, rfl⟩ e3 e4 S5 hxv
        have hmem := List.mem_of_getElem? hget
        obtain ⟨hin, ⟨m1, m2⟩, m, hm, hmk⟩ := hx x hmem
        have keys0 : ((needs.take i).foldl (needStep ls) (names.map fun s => (s, 0))).map (·.1) = names := by
          rw [needs_keys]
          · rw [List.map_map]; exact List.map_id' _
          · intro y hy
            rw [List.map_map]
            exact (List.map_id' names).symm ▸ (hx y (List.mem_of_mem_take hy)).1
          · intro y hy m' em z hz
            obtain ⟨_, _, m'', em'', hm''⟩ := hx y (List.mem_of_mem_take hy)
            rw [em''] at em
            cases em
            rw [List.map_map]
            exact (List.map_id' names).symm ▸ hm'' z hz
        rw [foldl_take_succ hget]
        generalize hf : (needs.take i).foldl (needStep ls) (names.map fun s => (s, 0)) = f at S5 keys0 ⊢
        repeat tb_start
        refine r_gtupSI S5 hxv ?_
        repeat tb_start
        obtain ⟨c, hc⟩ := getA_of_mem (l := f) (s := x.1) (by rw [keys0]; exact hin)
        refine v_getDS (kvs := kvI f) (by kts_caught) (by rw [valV_kvI, hc]; rfl) ?_
        repeat tb_start
        have len1 : f.length ≤ 12 := by
          have := congrArg List.length keys0
          rw [List.length_map] at this
          omega
        refine v_setKN (k := .inr x.1) 0 S5 rfl rfl (by rw [List.length_map, sizeLine_eq]; omega) fun H4 S6 => ?_
        rw [putK_kvI] at S6
        have eadd : putA f x.1 (c + x.2) = addA f x.1 x.2 := by unfold addA; rw [hc]; rfl
        rw [eadd] at S6
        replace S6 : Ok _ B3 [(D, .dK (kvI (addA f x.1 x.2)))] H4 := S6
        have keys1 : (addA f x.1 x.2).map (·.1) = names := by rw [addA_keys (by rw [keys0]; exact hin), keys0]
        obtain ⟨d, od2, hd1, hd2⟩ := LK.get hm
        repeat tb_start
        refine v_ixDS (kvs := lkv) (S6.keptRd hl) hd1 ?_
        repeat tb_start
        have e5 : Ex B B3 := e2.trans (e3.trans e4)
        refine itmQ (S6.ex _ _ (e5 _ _ hd2)) ?_
        refine forDS src_items S6 (fun j σ B1 L1 => ∃ x3 x4, σ = [some (.ref p), some v, some (.ref D), some (.str x.1), some (.int x.2), x3, x4] ∧ L1 = [(D, .dK (kvI (addAll x.2 (addA f x.1 x.2) (m.take j))))]) (fun j σ B1 L1 e6 _ => .inl (e6 _ _ (e5 _ _ hd2))) ?_ ?_ ?_
        · exact ⟨_, _, rfl, rfl⟩
        · rintro j kv yv σ B1 B4 L1 H5 hgetj ⟨_, _, rfl, rfl⟩ e6 e7 S7 ⟨T, rfl, hT⟩
          obtain ⟨y, hy, rfl⟩ := kvI_get hgetj
          have hyk := hmk y (List.mem_of_getElem? hy)
          unfold addAll at S7 ⊢
          rw [foldl_take_succ hy]
          have keys2 : ((m.take j).foldl (fun f p => addA f p.1 (x.2 * p.2)) (addA f x.1 x.2)).map (·.1) = names := by
            have := addAll_keys (m := x.2) (f := addA f x.1 x.2) (more := m.take j) (fun z hz => by rw [keys1]; exact hmk z (List.mem_of_mem_take hz))
            unfold addAll at this
            rw [this, keys1]
          generalize hg : (m.take j).foldl (fun f p => addA f p.1 (x.2 * p.2)) (addA f x.1 x.2) = g at S7 keys2 ⊢
          refine r_gtupB S7 hT rfl ?_
          repeat tb_start
          obtain ⟨c2, hc2⟩ := getA_of_mem (l := g) (s := y.1) (by rw [keys2]; exact hyk)
          refine v_getDS (kvs := kvI g) (by kts_caught) (by rw [valV_kvI, hc2]; rfl) ?_
          repeat tb_start
          have len2 : g.length ≤ 12 := by
            have := congrArg List.length keys2
            rw [List.length_map] at this
            omega
          refine v_setKN (k := .inr y.1) 0 S7 rfl rfl (by rw [List.length_map, sizeLine_eq]; omega) fun H6 S8 => ?_
          rw [putK_kvI] at S8
          have eadd2 : putA g y.1 (c2 + x.2 * y.2) = addA g y.1 (x.2 * y.2) := by
            rw [addA, hc2]; rfl
          rw [eadd2] at S8
          refine NxE.mk' S8 (e6.trans e7) ?_
          exact ⟨_, _, rfl, rfl⟩
        · rintro σ B4 L4 H5 ⟨_, _, rfl, rfl⟩ e6 S7
          have et : m.take (kvI m).length = m := by rw [List.length_map, List.take_length]
          rw [et] at S7
          refine NxE.mk' S7 ((e3.trans e4).trans e6) ?_
          refine ⟨_, _, _, _, rfl, ?_⟩
          unfold needStep
          rw [hm]
          rfl
      · rintro σ B4 L4 H4 ⟨_, _, _, _, rfl, rfl⟩ e3 S5
        rw [List.take_length] at S5
        have keys0 : (ledRaw names ls needs).map (·.1) = names := by
          unfold ledRaw
          rw [needs_keys]
          · rw [List.map_map]; exact List.map_id' _
          · intro y hy
            rw [List.map_map]
            exact (List.map_id' names).symm ▸ (hx y hy).1
          · intro y hy m' em z hz
            obtain ⟨_, _, m'', em'', hm''⟩ := hx y hy
            rw [em''] at em
            cases em
            rw [List.map_map]
            exact (List.map_id' names).symm ▸ hm'' z hz
        replace S5 : Ok _ B4 [(D, .dK (kvI (ledRaw names ls needs)))] H4 := S5
        repeat tb_start
        refine frzE (S5.own _ (.head _)).1 trivial fun od3 => ?_
        obtain ⟨B5, e5, hD, S6⟩ := S5.freezeD (od := od3)
        repeat tb_start
        refine itmQ (S6.ex _ _ hD) ?_
        refine dcPure src_items S6 (fun B1 D acc e => .inl (e _ _ hD)) (vInt fun i => decide (0 < i)) id ?_ ?_ ?_ ?_
        · show ((kvI (ledRaw names ls needs)).map (·.1)).Nodup
          rw [kvI_keys, keys0]
          exact nodup_inr nd
        · have := congrArg List.length keys0
          rw [List.length_map] at this ⊢
          omega
        · rintro kv x B6 D6 acc H6 C Cs hkv e6 S7 ⟨T, rfl, hT⟩ kC kS
          obtain ⟨y, hy, rfl⟩ := List.mem_map.mp hkv
          refine r_gtupB S7 hT rfl ?_
          repeat tb_start
          refine ⟨rfl, ?_⟩
          repeat tb_start
          refine ifd (fun h0 => ?_) (fun h0 => ?_)
          · repeat tb_start
            exact kC _ _ _ (decide_eq_true h0) rfl (Ex.refl _) S7
          · exact kS _ _ (decide_eq_false h0) (Ex.refl _) S7
        · intro D6 B6 H6 e6 S7
          rw [List.map_id] at S7
          rw [kvI_filter] at S7
          exact k D6 B6 H6 (e2.trans (e3.trans (e5.trans e6))) S7
end
end LW

namespace LW
open PySem PySem.Spec PyProof.Rows L2 WK PM
abbrev s_Parts___init__ : Stmt := inClass (topS 17) 0
theorem sc_Parts___init__ : FnScope ["self", "told", "at", "row", "name", "needs", "steps", "lot", "lead"] ["self", "told"] (defScope s_Parts___init__) := ⟨rfl, rfl, rfl, by decide +kernel, rfl, by decide +kernel, by decide +kernel⟩
def spPInit (K : PySem.W.Frag) (CP : Addr) : Sp := fun vs H Q _ => ∃ (B : Hp) (p dx : Addr) (v : V) (rs : List PRow), vs = [.ref p, v] ∧ Ok ⟨B, H, [p]⟩ B [(p, .ins CP dx [])] H ∧ Dpl K B v (rs.map encRow) ∧ GoodBook rs ∧
  ∀ a l rkv lkv B' H', Ex B B' → RowKV K B' rkv rs → LedKV B' lkv (ledOf rs) → Ok ⟨B, H, [p]⟩ B' [(l, .dK lkv), (a, .dK rkv), (p, .ins CP dx (fldsP a l))] H' → Q .non H'
section
variable {P : Program} {w : World} {K : PySem.W.Frag} {mg : Str → Option Value} {base : Heap}
theorem ok_parts_init {f CP : Addr} {fd : FuncData} (F : Fun K "__init__" "Parts.__init__" s_Parts___init__ f fd) (G_is_row : MtG P w K mg base 2 CP "is_row" ["self", "row"] (spIsRow K CP)) (G_led_to : MtG P w K mg base 1 CP "led_to" ["self", "needs"] (spLedTo K CP))
    (clP : Cls K CP) (nRows : NoAttr K CP "rows") (nLed : NoAttr K CP "led") (n_enumerate : mg "enumerate" = none) (n_tuple : mg "tuple" = none) (n_sum : mg "sum" = none) (c_MOST_PARTS : GlI mg "MOST_PARTS" 12) (c_MOST_LED : GlI mg "MOST_LED" 200) : FnOk P w K mg base CX0 3 f fd ["self", "told"] (spPInit K CP) := by
  refine F.ok sc_Parts___init__ (fun vs H Q E h => ?_) (fun cdv A outer s H vs Q E hr h => ?_)
  · obtain ⟨B, p, dx, v, rs, rfl, _⟩ := h
    rfl
  · obtain ⟨B, p, dx, v, rs, rfl, S, hv, G, k⟩ := h
    refine with_al (P := P) (w := w) (K := K) hr (fun al => ?_)
    refine ⟨_, (pss_cons (ps_fld (pv 0) pe_dnewK rfl) (pss_cons (ps_fld (pv 0) pe_dnewK rfl) (pss_one (ps_for PassesOwn.never rfl (pi_enumV (by rfl) n_enumerate (pa_cons (pv 1) pa_nil)) (pg_tupU (n := 2) K (pgs_cons (pg_name (i := 2) sc_Parts___init__.nd rfl (by first | exact Or.inl rfl | exact Or.inr rfl)) (pgs_cons (pg_name (i := 3) sc_Parts___init__.nd rfl (by first | exact Or.inl rfl | exact Or.inr rfl)) pgs_nil))) (pss_cons (ps_if (PW.pt (pw_or (pt_cmpR (opU al) (pv 2) (pe_gi c_MOST_PARTS rfl) (nomark _)) (pw_or1 (pt_not (pt_val (pe_mth G_is_row (hr.mono (by first | decide | omega)) (pv 0) (pa_cons (pv 3) pa_nil))))))) (pss_one ps_never) pss_nil) (pss_cons (ps_asg (pv 3) (pg_tupU (n := 5) K (pgs_cons (pg_name (i := 4) sc_Parts___init__.nd rfl (by first | exact Or.inl rfl | exact Or.inr rfl)) (pgs_cons (pg_name (i := 5) sc_Parts___init__.nd rfl (by first | exact Or.inl rfl | exact Or.inr rfl)) (pgs_cons (pg_name (i := 6) sc_Parts___init__.nd rfl (by first | exact Or.inl rfl | exact Or.inr rfl)) (pgs_cons (pg_name (i := 7) sc_Parts___init__.nd rfl (by first | exact Or.inl rfl | exact Or.inr rfl)) (pgs_cons (pg_name (i := 8) sc_Parts___init__.nd rfl (by first | exact Or.inl rfl | exact Or.inr rfl)) pgs_nil))))))) (pss_cons (ps_asg (pe_tup (pa_cons (pe_callTy (callU al) (by rfl) n_tuple b_tuple (pa_cons (pv 5) pa_nil)) (pa_cons (pe_callTy (callU al) (by rfl) n_tuple b_tuple (pa_cons (pv 6) pa_nil)) (pa_cons (pv 7) (pa_cons (pv 8) pa_nil))))) (pg_sub (pe_fldU K (pv 0) rfl) (pv 4) (setU al))) (pss_cons (ps_asg (pe_mth G_led_to (hr.mono (by first | decide | omega)) (pv 0) (pa_cons (pv 5) pa_nil)) (pg_sub (pe_fldU K (pv 0) rfl) (pv 4) (setU al))) (pss_one (ps_frz (ps_if (pt_cmpR (opU al) (pe_sumVals al.calm (by rfl) n_sum (pe_ix (ixU al) (pe_fldU K (pv 0) rfl) (pv 4) (fun _ _ => rfl))) (pe_gi c_MOST_LED rfl) (nomark _)) (pss_one ps_never) pss_nil))))))))))), ?_⟩
    repeat tb_start
    refine new_dK S fun a H1 S1 => ?_
    repeat tb_start
    refine sfdQ 1 S1 rfl clP nRows (by decide) rfl fun H2 S2 => ?_
    repeat tb_start
    refine new_dK S2 fun l H3 S3 => ?_
    repeat tb_start
    refine sfdQ 2 S3 rfl clP nLed (by show 1 < 1000; decide) rfl fun H4 S4 => ?_
    replace S4 : Ok ⟨B, H, [p]⟩ B [(l, .dK []), (a, .dK []), (p, .ins CP dx (fldsP a l))] H4 := S4
    repeat tb_start
    refine enuD S4 hv fun J src => ?_
    refine forDS src S4 (fun i σ B1 L1 => ∃ x1 x2 x3 x4 x5 x6 x7 rkv lkv, σ = [some (.ref p), some v, x1, x2, x3, x4, x5, x6, x7] ∧ RowKV K B1 rkv (rs.take i) ∧ LedKV B1 lkv (ledOf (rs.take i)) ∧ L1 = [(l, .dK lkv), (a, .dK rkv), (p, .ins CP dx (fldsP a l))])
      (fun i σ B1 L1 e _ => e) ?_ ?_ ?_
    · exact ⟨_, _, _, _, _, _, _, _, _, rfl, .nil, .nil, rfl⟩
    · rintro i y xv σ B1 B3 L1 H5 hget ⟨_, _, _, _, _, _, _, rkv, lkv, rfl, RK0, LK0, rfl⟩ e3 e4 S5 ⟨T, u, rfl, hT, hu⟩
      obtain ⟨hr1, hr2⟩ := zipIdx_at hget
      have RK := RK0.up e4
      have LK := LK0.up e4
      have R := G.row i _ hr1
      have hi : i < rs.length := (List.getElem?_eq_some_iff.mp hr1).1
      have hlen := G.len
      refine r_gtupB S5 hT rfl ?_
      repeat tb_start
      have names_len : ((rs.take i).map (·.name)).length ≤ 12 := by rw [List.length_map, List.length_take]; omega
      refine ⟨B3, p, dx, a, l, u, rkv, (rs.take i).map (·.name), y.1, rfl, S5.ex, by kts_caught, by kts_caught, RK.keys, hu, R, names_len, fun B6 H6 T6 => ?_⟩
      have S6 := S5.callP T6
      have e6 := T6.ex0
      repeat tb_start
      refine r_gtupRow S6 (hu.up e6) fun v2 v3 h2 h3 => ?_
      repeat tb_start
      refine v_tupDT S6 h2 ?_
      repeat tb_start
      refine v_tupDT S6 h3 ?_
      repeat tb_start
      refine new_tupD S6 (.cons h2 (.cons h3 (.cons (.int _) (.cons (.int _) .nil)))) (by simp) fun t B7 H7 e7 S7 ht => ?_
      repeat tb_start
      refine v_setKN (k := .inr y.1.name) 1 S7 rfl rfl ?_ fun H8 S8 => ?_
      · have := congrArg List.length RK.keys
        rw [List.length_map, List.length_map] at this
        rw [this, sizeLine_eq]
        omega
      have no : valV rkv (.inr y.1.name) = none := valV_none (by
        rw [RK.keys]
        intro z
        obtain ⟨x, hx, e⟩ := List.mem_map.mp z
        exact R.new (Sum.inr.inj e ▸ hx))
      rw [putK_new _ no] at S8
      replace S8 : Ok ⟨B, H, [p]⟩ B7 [(l, .dK lkv), (a, .dK (rkv ++ [(.inr y.1.name, .ref t)])), (p, .ins CP dx (fldsP a l))] H8 := S8
      have RK8 : RowKV K B7 (rkv ++ [(.inr y.1.name, .ref t)]) (rs.take (i + 1)) := by
        rw [List.take_add_one, hr1]
        exact ((RK.up e6).up e7).snoc ht
      have LK8 := (LK.up e6).up e7
      repeat tb_start
      refine ⟨B7, p, dx, a, l, v2, _, lkv, (rs.take i).map (·.name) ++ [y.1.name], ledOf (rs.take i), y.1.needs, rfl, S8.ex, by kts_caught, S8.mem (.tail _ (.head _)), (S8.own _ (.tail _ (.head _))).2, ?_, ?_, ?_, by kts_caught, LK8, h2.up e7, G.needs hr1, fun D B9 H9 e9 T9 => ?_⟩
      · rw [← take_succ_map hr1]
        exact RK8.keys
      · rw [← take_succ_map hr1]
        exact G.nodup _
      · rw [← take_succ_map hr1, List.length_map, List.length_take]; omega
      have S9 := S8.callN T9
      have hm : ledTo ((rs.take i).map (·.name) ++ [y.1.name]) (ledOf (rs.take i)) y.1.needs = ledTo ((ledOf (rs.take i)).map (·.1) ++ [y.1.name]) (ledOf (rs.take i)) y.1.needs := by rw [ledOf_names]
      rw [hm] at S9
      have hstep : ledOf (rs.take (i + 1)) = ledOf (rs.take i) ++ [(y.1.name, ledTo ((ledOf (rs.take i)).map (·.1) ++ [y.1.name]) (ledOf (rs.take i)) y.1.needs)] := ledOf_take hr1
      generalize ledTo ((ledOf (rs.take i)).map (·.1) ++ [y.1.name]) (ledOf (rs.take i)) y.1.needs = m at S9 hstep
      have hsum : (m.map (·.2)).sum ≤ 200 := G.led (y.1.name, m) (ledOf_sub (i + 1) _ (by rw [hstep]; exact List.mem_append_right _ (.head _)))
      repeat tb_start
      refine v_setKN (k := .inr y.1.name) 1 S9 rfl rfl ?_ fun H10 S10 => ?_
      · have := congrArg List.length LK.keys
        have h2 := congrArg List.length (ledOf_names (rs.take i))
        rw [List.length_map, List.length_map] at this h2
        rw [List.length_take] at h2
        rw [this, sizeLine_eq]
        omega
      have noL : valV lkv (.inr y.1.name) = none := valV_none (by
        rw [LK.keys]
        intro z
        obtain ⟨x, hx, e⟩ := List.mem_map.mp z
        refine R.new ?_
        rw [← ledOf_names]
        exact List.mem_map.mpr ⟨x, hx, Sum.inr.inj e⟩)
      rw [putK_new _ noL] at S10
      replace S10 : Ok ⟨B, H, [p]⟩ B9 [(D, .dK (kvI m)), (l, .dK (lkv ++ [(.inr y.1.name, .ref D)])), (a, .dK (rkv ++ [(.inr y.1.name, .ref t)])), (p, .ins CP dx (fldsP a l))] H10 := S10
      repeat tb_start
      refine frzS (S10.own _ (.head _)).1 trivial fun od => ?_
      obtain ⟨B11, e11, hD, S11⟩ := S10.freezeD (od := od)
      repeat tb_start
      refine v_ixDS (kvs := lkv ++ [(.inr y.1.name, .ref D)]) (by kts_caught) (by rw [valV_snoc _ _ _ _ noL, if_pos rfl]) ?_
      refine sumQ (by kts_caught) (kvI_vals m) ?_
      repeat tb_start
      refine NxE.mk' S11 (e3.trans <| e4.trans (e6.trans (e7.trans (e9.trans e11)))) ?_
      refine ⟨_, _, _, _, _, _, _, _, _, rfl, (RK8.up e9).up e11, ?_, rfl⟩
      rw [hstep]
      exact ((LK8.up e9).up e11).snoc hD
    · rintro σ B1 L1 H5 ⟨_, _, _, _, _, _, _, rkv, lkv, rfl, RK, LK, rfl⟩ e3 S5
      rw [List.length_zipIdx, List.take_length] at RK LK
      exact k a l rkv lkv _ _ e3 RK LK S5
end
end LW

namespace LW
open PySem PySem.Spec PyProof.Rows L2 WK PM
abbrev s__law_led : Stmt := topS 31
theorem sc__law_led : FnScope ["_law_rows", "_law_needs", "_law_found", "_law_part", "_law_many", "_law_inner", "_law_row", "_law_other"] ["_law_rows", "_law_needs"] (defScope s__law_led) := ⟨rfl, rfl, rfl, by decide +kernel, rfl, by decide +kernel, by decide +kernel⟩
def spLL (K : PySem.W.Frag) : Nat → Sp
  | 0 => fun _ _ _ _ => False
  | n + 1 => fun vs H Q _ => ∃ (B : Hp) (a : Addr) (xs : List V) (v : V) (d : PyData) (rs : List PRow) (needs : List (Str × Int)), vs = [.ref a, v] ∧ Ex B H ∧ SqL K H a xs ∧ DpAll K B xs (rs.map encRow) ∧ Dp K B v d ∧ (d = .list (needs.map encNeed) ∨ d = .tuple (needs.map encNeed)) ∧ GoodBook rs ∧
      (∀ x ∈ needs, x.1 ∈ (rs.take n).map (·.name)) ∧ (∀ x ∈ needs, 1 ≤ x.2 ∧ x.2 ≤ 9) ∧ needs.length ≤ 12 ∧ ∀ D H', Ok ⟨B, H, []⟩ B [(D, .dK (kvI (lawLed rs n needs)))] H' → Q (.ref D) H'
section
variable {P : Program} {w : World} {K : PySem.W.Frag} {mg : Str → Option Value} {base : Heap}
theorem ok__law_led0 {f : Addr} {fd : FuncData} : FnOk P w K mg base CX0 0 f fd ["_law_rows", "_law_needs"] (spLL K 0) := by
  exact ⟨fun vs H Q E h => False.elim h, fun _ _ _ _ _ _ _ _ _ _ _ _ _ h => False.elim h⟩
theorem ok__law_ledS {f : Addr} {fd : FuncData} {n : Nat} (F : Fun K "_law_led" "_law_led" s__law_led f fd) (G__law_led : FnG P w K mg base n "_law_led" ["_law_rows", "_law_needs"] (spLL K n)) : FnOk P w K mg base CX0 (n + 1) f fd ["_law_rows", "_law_needs"] (spLL K (n + 1)) := by
  refine F.ok sc__law_led (fun vs H Q E h => ?_) (fun cdv A outer s H vs Q E hr h => ?_)
  · obtain ⟨B, a, xs, v, d, rs, needs, rfl, _⟩ := h
    rfl
  · obtain ⟨B, a, xs, v, d, rs, needs, rfl, ex, hq, hda, hv, hd, G, hn, hb, hlen, k⟩ := h
    have S : Ok ⟨H, H, []⟩ H [] H := Ok.start0 (Ex.refl H)
    have hrows : Dp K H (.ref a) (.list (rs.map encRow)) := .lst hq (hda.up ex)
    have glen := G.len
    refine with_al (P := P) (w := w) (K := K) hr (fun al => ?_)
    refine ⟨_, (pss_cons (ps_asg pe_dnewK (pg_name (i := 2) sc__law_led.nd rfl (by first | exact Or.inl rfl | exact Or.inr rfl))) (pss_cons (ps_for PassesOwn.never rfl (pi_val al (pv 1)) (pg_tupU (n := 2) K (pgs_cons (pg_name (i := 3) sc__law_led.nd rfl (by first | exact Or.inl rfl | exact Or.inr rfl)) (pgs_cons (pg_name (i := 4) sc__law_led.nd rfl (by first | exact Or.inl rfl | exact Or.inr rfl)) pgs_nil))) (pss_cons (ps_asg (pe_op (opU al) (pe_bmU K PySem.F.plainAttrs_dict PySem.F.slot_dict_get PySem.F.type_dict_get (metU al) (pv 2) (pa_cons (pv 3) (pa_cons pe_int pa_nil))) (pv 4)) (pg_sub (pv 2) (pv 3) (setU al))) (pss_cons (ps_asg (pe_fn G__law_led (hr.mono (by first | decide | omega)) rfl (pa_cons (pv 0) (pa_cons (pe_ix (ixU al) (pe_lc (own := [("_law_row", 6)]) al.calm sc__law_led.nd (pi_val al (pv 0)) (blkOk_by (own := [("_law_row", 6)]) (N := ["_law_rows", "_law_needs", "_law_found", "_law_part", "_law_many", "_law_inner", "_law_row", "_law_other"]) (sc := (defScope s__law_led)) (by decide +kernel)) (fun _ _ _ _ _ => (pg_name (i := 6) sc__law_led.nd rfl (by first | exact Or.inl rfl | exact Or.inr rfl))) (fun _ _ _ _ _ => pts_one (pt_cmpR (opU al) (pe_ix (ixU al) (pv 6) pe_int (fun _ _ => rfl)) (pv 3) (nomark _))) (fun _ _ _ _ _ => (pe_ix (ixU al) (pv 6) pe_int (fun _ _ => rfl)))) pe_int (fun _ _ => rfl)) pa_nil))) (pg_name (i := 5) sc__law_led.nd rfl (by first | exact Or.inl rfl | exact Or.inr rfl))) (pss_one (ps_frz (ps_for PassesOwn.never rfl (pi_keys (pv 5)) (pg_name (i := 7) sc__law_led.nd rfl (by first | exact Or.inl rfl | exact Or.inr rfl)) (pss_one (ps_asg (pe_op (opU al) (pe_bmU K PySem.F.plainAttrs_dict PySem.F.slot_dict_get PySem.F.type_dict_get (metU al) (pv 2) (pa_cons (pv 7) (pa_cons pe_int pa_nil))) (pe_op (opU al) (pv 4) (pe_ix (ixU al) (pv 5) (pv 7) (fun _ _ => rfl)))) (pg_sub (pv 2) (pv 7) (setU al)))))))))) (pss_one (ps_ret (pv 2))))), ?_⟩
    repeat tb_start
    refine new_dK S fun D H1 S1 => ?_
    repeat tb_start
    refine forDA S1 (hv.up ex) hd (fun i σ B1 L1 => ∃ x1 x2 x3 x4 x5, σ = [some (.ref a), some v, some (.ref D), x1, x2, x3, x4, x5] ∧ L1 = [(D, .dK (kvI ((needs.take i).foldl (lawStep fun s => lawLed rs (n - 1) (needsOf rs s)) [])))]) ?_ ?_ ?_
    · exact ⟨_, _, _, _, _, rfl, rfl⟩
    · rintro i x xv σ B1 B3 L1 H3 hget ⟨_, _, _, _, _, rfl, rfl⟩ e3 e4 S5 hxv
      have hmem := List.mem_of_getElem? hget
      obtain ⟨m1, m2⟩ := hb x hmem
      obtain ⟨n, rfl⟩ : ∃ n', n = n' + 1 := by
        cases n with
        | zero => have := hn x hmem; cases this
        | succ n' => exact ⟨n', rfl⟩
      obtain ⟨r, hr1, hr2, hr3, hr4, hr5, hr6⟩ := G.at (hn x hmem)
      have hp1 := names_take (hn x hmem)
      have inner := lawLed_fine G n r.needs hr4
      have eR : needsOf rs x.1 = r.needs := by rw [← hr2]; exact needsOf_row G hr1
      rw [foldl_take_succ hget]
      have fine : Fine (rs.map (·.name)) ((needs.take i).foldl (lawStep fun s => lawLed rs n (needsOf rs s)) []) := by
        refine lawFold_fine (fun p hp => names_take (hn p (List.mem_of_mem_take hp))) (fun p hp => ?_) (Fine.nil _)
        obtain ⟨r2, q1, q2, _, q4, _⟩ := G.at (hn p (List.mem_of_mem_take hp))
        rw [← q2, needsOf_row G q1]
        exact (lawLed_fine G n r2.needs q4).sub
      show _
      have hsub : n + 1 - 1 = n := rfl
      rw [hsub] at S5 ⊢
      generalize (needs.take i).foldl (lawStep fun s => lawLed rs n (needsOf rs s)) [] = f at S5 fine ⊢
      have flen := fine.len
      rw [List.length_map] at flen
      have step : lawStep (fun s => lawLed rs n (needsOf rs s)) f x = addAll x.2 (addA f x.1 x.2) (lawLed rs n r.needs) := by
        show addAll x.2 (addA f x.1 x.2) (lawLed rs n (needsOf rs x.1)) = _
        rw [eR]
      rw [step]
      refine r_gtupSI S5 hxv ?_
      repeat tb_start
      rw [get_kvI]
      repeat tb_start
      refine v_setKN (k := .inr x.1) 0 S5 rfl rfl (by rw [List.length_map, sizeLine_eq]; omega) fun H4 S6 => ?_
      rw [putK_kvI] at S6
      replace S6 : Ok _ B3 [(D, .dK (kvI (addA f x.1 x.2)))] H4 := S6
      have fine1 := addA_fine (v := x.2) fine hp1
      generalize addA f x.1 x.2 = g at S6 fine1 ⊢
      repeat tb_start
      have e5 := e3.trans e4
      refine lcPureL S6 (hrows.up e5) (fun r => decide (r.name = x.1)) (fun r => .tuple (r.needs.map encNeed)) (by omega) ?_ ?_
      · intro r0 xv2 B6 D6 acc H6 C Cs hmem0 e6 S7 hv0 kC kS
        repeat tb_start
        refine ⟨rfl, ?_⟩
        repeat tb_start
        refine v_ixDT (j := 0) S7 hv0 rfl rfl fun u hu => ?_
        obtain rfl := hu.str_inv
        repeat tb_start
        refine ifd (fun hh => ?_) (fun hh => ?_)
        · repeat tb_start
          refine v_ixDT (j := 1) S7 hv0 rfl rfl fun u hu => ?_
          exact kC _ _ _ (decide_eq_true hh) (Ex.refl _) S7 hu
        · exact kS _ _ (decide_eq_false hh) (Ex.refl _) S7
      · intro D6 acc B6 H6 e6 S7 hacc
        rw [hr3] at hacc
        obtain ⟨v0, _, rfl, hv0, hnil⟩ := hacc.cons_inv
        obtain rfl := hnil.nil_inv
        repeat tb_start
        have e7 := e5.trans e6
        refine ⟨B6, a, xs, v0, _, rs, r.needs, rfl, S7.ex, S7.sqB (e7.sqL hq), (hda.up ex).up e7, hv0, .inr rfl, G, hr4, hr5, hr6, fun D2 H7 T7 => ?_⟩
        have S8 := (S7.callN T7)
        generalize lawLed rs n r.needs = m at S8 inner ⊢
        replace S8 : Ok _ B6 [(D2, .dK (kvI m)), (D6, .lst [v0]), (D, .dK (kvI g))] H7 := S8
        have S9 : Ok _ B6 [(D2, .dK (kvI m)), (D, .dK (kvI g))] H7 := (S8.swap.drop)
        repeat tb_start
        refine frzS (S9.own _ (.head _)).1 trivial fun od => ?_
        obtain ⟨B9, e9, hD2, S10⟩ := S9.freezeD (od := od)
        repeat tb_start
        refine keyQ (S10.ex _ _ hD2) ?_
        refine forDS src_keysI S10 (fun j σ B1 L1 => ∃ x4 x5, σ = [some (.ref a), some v, some (.ref D), some (.str x.1), some (.int x.2), some (.ref D2), x4, x5] ∧ L1 = [(D, .dK (kvI (addAll x.2 g (m.take j))))]) (fun j σ B1 L1 e10 _ => .inl (e10 _ _ hD2)) ?_ ?_ ?_
        · exact ⟨_, _, rfl, rfl⟩
        · rintro j y yv σ B1 B11 L1 H8 hgetj ⟨_, _, rfl, rfl⟩ e10 e11 S11 rfl
          have hym := List.mem_of_getElem? hgetj
          have hyn := inner.sub y hym
          unfold addAll at S11 ⊢
          rw [foldl_take_succ hgetj]
          have fine2 := addAll_fine (m := x.2) (more := m.take j) (fun z hz => inner.sub z (List.mem_of_mem_take hz)) fine1
          unfold addAll at fine2
          generalize (m.take j).foldl (fun f p => addA f p.1 (x.2 * p.2)) g = q at S11 fine2 ⊢
          have qlen := fine2.len
          rw [List.length_map] at qlen
          repeat tb_start
          rw [get_kvI]
          refine v_ixDS (kvs := kvI m) (S11.rdStayF (e11 _ _ (e10 _ _ hD2))) (by rw [valV_kvI, getA_nodup hym inner.nd]; rfl) ?_
          repeat tb_start
          refine v_setKN (k := .inr y.1) 0 S11 rfl rfl (by rw [List.length_map, sizeLine_eq]; omega) fun H9 S12 => ?_
          rw [putK_kvI] at S12
          refine NxE.mk' S12 (e10.trans e11) ?_
          exact ⟨_, _, rfl, rfl⟩
        · rintro σ B1 L1 H8 ⟨_, _, rfl, rfl⟩ e10 S11
          rw [List.take_length] at S11
          refine NxE.mk' S11 (((e3.trans e4).trans e6).trans (e9.trans e10)) ?_
          exact ⟨_, _, _, _, _, rfl, rfl⟩
    · rintro σ B1 L1 H3 ⟨_, _, _, _, _, rfl, rfl⟩ e3 S5
      rw [List.take_length] at S5
      repeat tb_start
      refine k D _ (Ok.rebase (B' := B1) ex ?_)
      cases n with
      | zero =>
        cases needs with
        | nil => exact S5
        | cons p needs => have := hn p (.head _); cases this
      | succ n => exact S5
end
end LW

namespace LW
open PySem PySem.Spec PyProof.Rows L2 WK PM
abbrev s__law_parts : Stmt := topS 32
theorem sc__law_parts : FnScope ["_law_h", "_law_most", "_law_found", "_law_k", "_law_needs", "_law_row", "_law_steps", "_law_j", "_law_name"] ["_law_h", "_law_most"] (defScope s__law_parts) := ⟨rfl, rfl, rfl, by decide +kernel, rfl, by decide +kernel, by decide +kernel⟩
def PSn (K : PySem.W.Frag) (F : Ent) (B1 : Hp) (p q D : Addr) (acc : List V) (rs : List PRow) (z mx : Int) : L2.St → Hp → Prop := fun σ' H' => ∃ vn ns x5 x6 x7 x8 m cs kk B', σ' = [some (.ref p), some (.int mx), some (.ref D), some (.int z), some vn, x5, x6, x7, x8] ∧
  Ok F B' ((D, .lst acc) :: hL p q m cs kk) H' ∧ Ex B1 B' ∧ HS cs kk ∧ Dp K B' vn (.list (ns.map encNeed)) ∧ NsOk rs ns
def PSt (K : PySem.W.Frag) (F : Ent) (B1 : Hp) (p q D : Addr) (acc : List V) (rs : List PRow) (z mx : Int) (W : List (Str × Int) → Prop) : L2.St → Hp → Prop := fun σ' H' => ∃ vn ns vs st x5 x7 x8 m cs kk B', σ' = [some (.ref p), some (.int mx), some (.ref D), some (.int z), some vn, x5, some vs, x7, x8] ∧
  Ok F B' ((D, .lst acc) :: hL p q m cs kk) H' ∧ Ex B1 B' ∧ HS cs kk ∧ Dp K B' vn (.list (ns.map encNeed)) ∧ NsOk rs ns ∧ Dp K B' vs (.tuple (st.map encStep)) ∧ StOk st ∧ W ns
/-- a draw, wherever the state stands in the ledger -/
theorem nextQ {F : Ent} {B H : Hp} {Q : VK} {p q : Addr} {m : Int} {cs : List Int} {kk many : Int} (L1 L2 : Led) (S : Ok F B (L1 ++ (hL p q m cs kk ++ L2)) H) (hS : HS cs kk) (h0 : 0 < many) (h1 : many < 1073741824)
    (k : ∀ r m' cs' kk' H', 0 ≤ r → r < many → HS cs' kk' → Ok F B (L1 ++ (hL p q m' cs' kk' ++ L2)) H' → Q (.int r) H') : spNext [.ref p, .int many] H Q E0 := by
  have S1 : Ok F B (hL p q m cs kk ++ (L1 ++ L2)) H := S.perm (by
    rw [← List.append_assoc, ← List.append_assoc]
    exact List.Perm.append_right _ List.perm_append_comm)
  refine ⟨B, p, q, m, cs, kk, many, rfl, S1.sub (L1 := hL p q m cs kk), hS, h0, h1, fun r m' cs' kk' H' r0 r1 hS' T => k r m' cs' kk' H' r0 r1 hS' ?_⟩
  have S2 : Ok F B (hL p q m' cs' kk' ++ (L1 ++ L2)) H' := S1.call (L1 := hL p q m cs kk) (L2 := L1 ++ L2) T
  exact S2.perm (by
    rw [← List.append_assoc, ← List.append_assoc]
    exact List.Perm.append_right _ List.perm_append_comm)
def spLParts (K : PySem.W.Frag) : Sp := fun vs H Q _ => ∃ (B : Hp) (p q : Addr) (m : Int) (cs : List Int) (kk mx : Int), vs = [.ref p, .int mx] ∧ 1 ≤ mx ∧ mx ≤ 12 ∧ Ok ⟨B, H, [p, q]⟩ B (hL p q m cs kk) H ∧ HS cs kk ∧
  ∀ r rs m' cs' kk' B' H', Ex B B' → MyBook rs → rs ≠ [] → (rs.length : Int) ≤ mx → Dp K B' r (.list (rs.map encRow)) → HS cs' kk' → Ok ⟨B, H, [p, q]⟩ B' (hL p q m' cs' kk') H' → Q r H'
section
variable {P : Program} {w : World} {K : PySem.W.Frag} {mg : Str → Option Value} {base : Heap}
theorem ok__law_parts {f : Addr} {fd : FuncData} (F : Fun K "_law_parts" "_law_parts" s__law_parts f fd) (G__law_next : FnG P w K mg base 1 "_law_next" ["_law_h", "_law_many"] spNext) (G__law_led : FnG P w K mg base 13 "_law_led" ["_law_rows", "_law_needs"] (spLL K 13))
    (n_range : mg "range" = none) (n_tuple : mg "tuple" = none) (n_sum : mg "sum" = none) : FnOk P w K mg base CX0 14 f fd ["_law_h", "_law_most"] (spLParts K) := by
  refine F.ok sc__law_parts (fun vs H Q E h => ?_) (fun cdv A outer s H vs Q E hr h => ?_)
  · obtain ⟨B, p, q, m, cs, kk, mx, rfl, _⟩ := h
    rfl
  · obtain ⟨B, p, q, m, cs, kk, mx, rfl, hx1, hx2, S, hS, k⟩ := h
    refine with_al (P := P) (w := w) (K := K) hr (fun al => ?_)
    refine ⟨_, (pss_cons (ps_asg (pe_lst pa_nil) (pg_name (i := 2) sc__law_parts.nd rfl (by first | exact Or.inl rfl | exact Or.inr rfl))) (pss_cons (ps_for PassesOwn.never rfl (pi_range1 (by rfl) n_range (pa_cons (pe_op (opU al) pe_int (pe_fn G__law_next (hr.mono (by first | decide | omega)) rfl (pa_cons (pv 0) (pa_cons (pv 1) pa_nil)))) pa_nil)) (pg_name (i := 3) sc__law_parts.nd rfl (by first | exact Or.inl rfl | exact Or.inr rfl)) (pss_cons (ps_setLc (i := 4) (own := [("_law_row", 5)]) al.calm sc__law_parts.nd rfl rfl (sw_true rfl rfl rfl (by decide +kernel)) (pi_val al (pv 2)) (blkOk_by (own := [("_law_row", 5)]) (N := ["_law_h", "_law_most", "_law_found", "_law_k", "_law_needs", "_law_row", "_law_steps", "_law_j", "_law_name"]) (sc := (defScope s__law_parts)) (by decide +kernel)) (fun _ _ _ _ _ => (pg_name (i := 5) sc__law_parts.nd rfl (by first | exact Or.inl rfl | exact Or.inr rfl))) (fun _ _ _ _ _ => pts_one (pt_cmpR (opU al) (pe_fn G__law_next (hr.mono (by first | decide | omega)) rfl (pa_cons (pv 0) (pa_cons pe_int pa_nil))) pe_int (nomark _))) (fun _ _ _ _ _ => (pe_tup (pa_cons (pe_ix (ixU al) (pv 5) pe_int (fun _ _ => rfl)) (pa_cons (pe_op (opU al) pe_int (pe_fn G__law_next (hr.mono (by first | decide | omega)) rfl (pa_cons (pv 0) (pa_cons pe_int pa_nil)))) pa_nil))))) (pss_cons (ps_cut (ps_asg (pe_ifExp (pt_cmpR (opU al) (pe_fn G__law_next (hr.mono (by first | decide | omega)) rfl (pa_cons (pv 0) (pa_cons pe_int pa_nil))) pe_int (nomark _)) (pe_revL (pv 4)) (pv 4)) (pg_name (i := 4) sc__law_parts.nd rfl (by first | exact Or.inl rfl | exact Or.inr rfl)))) (pss_cons (ps_asg (pe_callTy (callU al) (by rfl) n_tuple b_tuple (pa_cons (pe_lc (own := [("_law_j", 7)]) al.calm sc__law_parts.nd (pi_range1 (by rfl) n_range (pa_cons (pe_fn G__law_next (hr.mono (by first | decide | omega)) rfl (pa_cons (pv 0) (pa_cons pe_int pa_nil))) pa_nil)) (blkOk_by (own := [("_law_j", 7)]) (N := ["_law_h", "_law_most", "_law_found", "_law_k", "_law_needs", "_law_row", "_law_steps", "_law_j", "_law_name"]) (sc := (defScope s__law_parts)) (by decide +kernel)) (fun _ _ _ _ _ => (pg_name (i := 7) sc__law_parts.nd rfl (by first | exact Or.inl rfl | exact Or.inr rfl))) (fun _ _ _ _ _ => pts_nil) (fun _ _ _ _ _ => (pe_tup (pa_cons (pe_fn G__law_next (hr.mono (by first | decide | omega)) rfl (pa_cons (pv 0) (pa_cons (pe_ix (ixU al) (pe_lst (pa_cons pe_int (pa_cons pe_int pa_nil))) (pe_fn G__law_next (hr.mono (by first | decide | omega)) rfl (pa_cons (pv 0) (pa_cons pe_int pa_nil))) (fun _ _ => rfl)) pa_nil))) (pa_cons (pe_op (opU al) pe_int (pe_fn G__law_next (hr.mono (by first | decide | omega)) rfl (pa_cons (pv 0) (pa_cons pe_int pa_nil)))) pa_nil))))) pa_nil)) (pg_name (i := 6) sc__law_parts.nd rfl (by first | exact Or.inl rfl | exact Or.inr rfl))) (pss_cons (ps_cut (ps_if (PW.pt (pw_or (pt_cmpR (opU al) (pe_fn G__law_next (hr.mono (by first | decide | omega)) rfl (pa_cons (pv 0) (pa_cons pe_int pa_nil))) pe_int (nomark _)) (pw_or1 (pt_cmpR (opU al) (pv 3) pe_int (nomark _))))) (pss_one (ps_par (i := 4) (j := 6) al.calm sc__law_parts.nd rfl rfl (by decide) rfl rfl (pa_cons (pe_lst pa_nil) (pa_cons (pe_tup pa_nil) pa_nil)) (by rfl))) pss_nil)) (pss_cons (ps_cut (ps_if (pt_cmpR (opU al) (pe_sumVals al.calm (by rfl) n_sum (pe_fn G__law_led (hr.mono (by first | decide | omega)) rfl (pa_cons (pv 2) (pa_cons (pv 4) pa_nil)))) pe_int (nomark _)) (pss_one (ps_asg (pe_lst pa_nil) (pg_name (i := 4) sc__law_parts.nd rfl (by first | exact Or.inl rfl | exact Or.inr rfl)))) pss_nil)) (pss_cons (ps_asg (pe_op (opU al) pe_str (pe_ix (ixU al) pe_str (pv 3) (fun _ _ => rfl))) (pg_name (i := 8) sc__law_parts.nd rfl (by first | exact Or.inl rfl | exact Or.inr rfl))) (pss_one (ps_expr (pe_bmU K PySem.F.plainAttrs_list PySem.F.slot_list_append PySem.F.type_list_append (metU al) (pv 2) (pa_cons (pe_tup (pa_cons (pv 8) (pa_cons (pe_callTy (callU al) (by rfl) n_tuple b_tuple (pa_cons (pv 4) pa_nil)) (pa_cons (pv 6) (pa_cons (pe_op (opU al) pe_int (pe_fn G__law_next (hr.mono (by first | decide | omega)) rfl (pa_cons (pv 0) (pa_cons pe_int pa_nil)))) (pa_cons (pe_fn G__law_next (hr.mono (by first | decide | omega)) rfl (pa_cons (pv 0) (pa_cons pe_int pa_nil))) pa_nil)))))) pa_nil))))))))))) (pss_one (ps_ret (pv 2))))), ?_⟩
    repeat tb_start
    refine new_lst S (by decide) fun D H1 S1 => ?_
    repeat tb_start
    refine nextQ [(D, .lst [])] [] S1 hS (by omega) (by omega) fun n0 m1 cs1 kk1 H2 r0 r1 hS1 S2 => ?_
    repeat tb_start
    refine rngQ (by omega) (by omega) ?_
    refine forDS src_range S2 (fun i σ B1 L1 => ∃ x3 x4 x5 x6 x7 x8 rs acc m cs kk, σ = [some (.ref p), some (.int mx), some (.ref D), x3, x4, x5, x6, x7, x8] ∧ MyBook rs ∧ rs.length = i ∧ DpAll K B1 acc (rs.map encRow) ∧ HS cs kk ∧ L1 = (D, .lst acc) :: hL p q m cs kk) (fun _ _ _ _ _ _ => True.intro) ?_ ?_ ?_
    · exact ⟨_, _, _, _, _, _, [], [], _, _, _, rfl, ⟨GoodBook.nil, fun i r h => by simp at h⟩, rfl, .nil, hS1, rfl⟩
    · rintro i i2 x σ B0 B1 L1 H3 hget ⟨_, _, _, _, _, _, rs, acc, m, cs, kk, rfl, M, hlen, hacc0, hS3, rfl⟩ e1 e2 S3 rfl
      have hacc := hacc0.up e2
      obtain ⟨hi, rfl⟩ : i < (1 + n0).toNat ∧ i2 = i := by
        have h1 := (List.getElem?_eq_some_iff.mp hget).1
        rw [List.length_range] at h1
        refine ⟨h1, ?_⟩
        rw [List.getElem?_range h1] at hget
        exact (Option.some.inj hget).symm
      have hi12 : rs.length < 12 := by omega
      have hz : (0 : Int) + (i2 : Nat) = (rs.length : Int) := by omega
      rw [hz]
      generalize hzz : (rs.length : Int) = z
      repeat tb_start
      refine ItU.list (S3.sqMem (.head _)) (lcD (src_lst (xs := acc) (as := rs) (enc := encRow)) S3 (fun j acc2 B2 L2 => ∃ (ns : List (Str × Int)) (m : Int) (cs : List Int) (kk : Int), L2 = (D, .lst acc) :: hL p q m cs kk ∧ Ex B1 B2 ∧ HS cs kk ∧ DpAll K B2 acc2 (ns.map encNeed) ∧ (ns.map (·.1)).Sublist ((rs.take j).map (·.name)) ∧ ∀ x ∈ ns, 1 ≤ x.2 ∧ x.2 ≤ 9) ?_ ?_ ?_ ?_)
      · exact ⟨[], _, _, _, rfl, Ex.refl _, hS3, .nil, List.Sublist.refl _, fun _ h => nomatch h⟩
      · rintro j acc2 B2 L2 D2 _ ⟨ns, m, cs, kk, rfl, e3, _⟩
        exact ⟨.inr (.tail _ (.head _)), hacc.up e3⟩
      · rintro j r xv acc2 B2 B4 L2 D2 H4 hgr ⟨ns, m, cs, kk, rfl, e3, hS4, hacc2, hsub, hmany⟩ e4 S4 hr0
        have hlen2 : acc2.length < sizeLine := by
          have h1 := hacc2.length
          have h2 := hsub.length_le
          rw [List.length_map] at h1
          rw [List.length_map, List.length_map, List.length_take] at h2
          rw [sizeLine_eq]
          omega
        repeat tb_start
        refine ⟨rfl, ?_⟩
        repeat tb_start
        refine nextQ [(D2, .lst acc2), (D, .lst acc)] [] S4 hS4 (by decide) (by decide) fun r1 m1 cs1 kk1 H5 q0 q1 hS5 S5 => ?_
        repeat tb_start
        refine ifd (fun hh => ?_) (fun hh => ?_)
        · repeat tb_start
          refine v_ixDT (j := 0) S5 hr0 rfl rfl fun u hu => ?_
          obtain rfl := hu.str_inv
          repeat tb_start
          refine nextQ [(D2, .lst acc2), (D, .lst acc)] [] S5 hS5 (by decide) (by decide) fun r2 m2 cs2 kk2 H6 q2 q3 hS6 S6 => ?_
          repeat tb_start
          refine new_tupD (K := K) S6 (.cons (.str _) (.cons (.int _) .nil)) (by simp) fun t B7 H7 e7 S7 ht => ?_
          refine Acc.mk S7 hlen2 ⟨ns ++ [(r.name, 1 + r2)], m2, cs2, kk2, rfl, e3.trans (e4.trans e7), hS6, ?_, ?_, ?_⟩
          · rw [List.map_append]
            exact ((hacc2.up e4).up e7).append (.cons ht .nil)
          · rw [List.map_append, take_succ_map hgr]
            exact hsub.append (List.Sublist.refl _)
          · intro y hy
            rcases List.mem_append.mp hy with hy | hy
            · exact hmany y hy
            · rw [List.mem_singleton] at hy
              subst hy
              show 1 ≤ 1 + r2 ∧ 1 + r2 ≤ 9
              omega
        · refine Skp.mk S5 ⟨ns, m1, cs1, kk1, rfl, e3.trans e4, hS5, hacc2.up e4, ?_, hmany⟩
          rw [take_succ_map hgr]
          exact hsub.trans (List.sublist_append_left _ _)
      · rintro acc2 B2 L2 D2 H4 ⟨ns, m, cs, kk, rfl, e3, hS4, hacc2, hsub, hmany⟩ S4
        obtain ⟨B5, e5, S5, hns⟩ := S4.toData hacc2
        rw [List.take_length] at hsub
        have NO : NsOk rs ns := ⟨M.good.nd.sublist hsub, fun x hx => hsub.subset (List.mem_map.mpr ⟨x, hx, rfl⟩), hmany⟩
        repeat tb_start
        refine cutS (PSn K ⟨B, H, [p, q]⟩ B1 p q D acc rs z mx) ?_ ?_
        · repeat tb_start
          refine nextQ [(D, .lst acc)] [] S5 hS4 (by decide) (by decide) fun r1 m1 cs1 kk1 H5 q0 q1 hS6 S6 => ?_
          repeat tb_start
          refine ifd (fun hh => ?_) (fun hh => ?_)
          · repeat tb_start
            refine revD S6 hns fun r B7 H7 e7 S7 h7 => ?_
            repeat tb_start
            exact ⟨_, ns.reverse, _, _, _, _, _, _, _, _, rfl, S7, e3.trans (e5.trans e7), hS6, by rw [List.map_reverse]; exact h7, NO.rev⟩
          · repeat tb_start
            exact ⟨_, ns, _, _, _, _, _, _, _, _, rfl, S6, e3.trans e5, hS6, hns, NO⟩
        · clear S5 hS4 NO hns hsub hmany hacc2 S4 e5 e3
          rintro σ6 H6 ⟨vn, ns, x5, x6, x7, x8, m, cs, kk, B6, rfl, S6, e6, hS6, hvn, NO⟩
          repeat tb_start
          refine nextQ [(D, .lst acc)] [] S6 hS6 (by decide) (by decide) fun r1 m1 cs1 kk1 H5 q0 q1 hS7 S7 => ?_
          repeat tb_start
          refine rngQ (by omega) (by omega) ?_
          refine lcD src_range S7 (fun j acc2 B2 L2 => ∃ (st : List (Int × Int)) (m : Int) (cs : List Int) (kk : Int), L2 = (D, .lst acc) :: hL p q m cs kk ∧ Ex B6 B2 ∧ HS cs kk ∧ DpAll K B2 acc2 (st.map encStep) ∧ st.length = j ∧ ∀ x ∈ st, (0 ≤ x.1 ∧ x.1 < 6) ∧ 1 ≤ x.2 ∧ x.2 ≤ 99) ?_ (fun _ _ _ _ _ _ _ => True.intro) ?_ ?_
          · exact ⟨[], _, _, _, rfl, Ex.refl _, hS7, .nil, rfl, fun _ h => nomatch h⟩
          · rintro j j2 xv acc2 B2 B4 L2 D2 H8 hgr ⟨st, m, cs, kk, rfl, e3, hS4, hacc2, hl2, hst⟩ e4 S4 rfl
            have hjl : j < 4 := by
              have h1 := (List.getElem?_eq_some_iff.mp hgr).1
              rw [List.length_range] at h1
              omega
            repeat tb_start
            refine ⟨rfl, ?_⟩
            repeat tb_start
            refine new_lst S4 (by decide) fun D3 H9 S9 => ?_
            repeat tb_start
            refine nextQ [(D3, .lst [.int 6, .int 2]), (D2, .lst acc2), (D, .lst acc)] [] S9 hS4 (by decide) (by decide) fun r2 m2 cs2 kk2 H10 q2 q3 hS10 S10 => ?_
            obtain ⟨w, hw, w1, w2⟩ : ∃ w : Int, atI [V.int 6, V.int 2] r2 = some (.int w) ∧ 0 < w ∧ w ≤ 6 := by
              have : r2 = 0 ∨ r2 = 1 := by omega
              rcases this with rfl | rfl
              · exact ⟨6, rfl, by decide, by decide⟩
              · exact ⟨2, rfl, by decide, by decide⟩
            refine v_ixL (xs := [V.int 6, V.int 2]) (S10.sqMem (.head _)) hw ?_
            repeat tb_start
            refine nextQ [(D2, .lst acc2), (D, .lst acc)] [] S10.drop hS10 w1 (by omega) fun r3 m3 cs3 kk3 H11 q4 q5 hS11 S11 => ?_
            repeat tb_start
            refine nextQ [(D2, .lst acc2), (D, .lst acc)] [] S11 hS11 (by decide) (by decide) fun r4 m4 cs4 kk4 H12 q6 q7 hS12 S12 => ?_
            repeat tb_start
            refine new_tupD (K := K) S12 (.cons (.int _) (.cons (.int _) .nil)) (by simp) fun t B7 H7 e7 S13 ht => ?_
            have hl3 := hacc2.length
            rw [List.length_map] at hl3
            refine Acc.mk S13 (by rw [sizeLine_eq]; omega) ⟨st ++ [(r3, 1 + r4)], _, _, _, rfl, e3.trans (e4.trans e7), hS12, ?_, ?_, ?_⟩
            · rw [List.map_append]
              exact ((hacc2.up e4).up e7).append (.cons ht .nil)
            · rw [List.length_append, hl2]; rfl
            · intro y hy
              rcases List.mem_append.mp hy with hy | hy
              · exact hst y hy
              · rw [List.mem_singleton] at hy
                subst hy
                show (0 ≤ r3 ∧ r3 < 6) ∧ 1 ≤ 1 + r4 ∧ 1 + r4 ≤ 99
                omega
          · rintro acc2 B2 L2 D2 H8 ⟨st, m, cs, kk, rfl, e3, hS4, hacc2, hl2, hst⟩ S4
            rw [List.length_range] at hl2
            obtain ⟨B9, e9, S9, hst9⟩ := S4.toData hacc2
            have SO : StOk st := ⟨by omega, hst⟩
            repeat tb_start
            refine v_tupD S9 hst9 fun vs B10 H10 e10 S10 hvs => ?_
            have hvn10 := ((hvn.up e3).up e9).up e10
            have e11 := e6.trans (e3.trans (e9.trans e10))
            clear hvn S9 hst9 S4 hacc2 e9 e10 e3 S7 S6 e6
            repeat tb_start
            refine cutS (PSt K ⟨B, H, [p, q]⟩ B1 p q D acc rs z mx fun _ => True) ?_ ?_
            · repeat tb_start
              refine nextQ [(D, .lst acc)] [] S10 hS4 (by decide) (by decide) fun r2 m2 cs2 kk2 H11 q2 q3 hS11 S11 => ?_
              repeat tb_start
              refine ifd (fun hh => ?_) (fun hh => ?_)
              · repeat tb_start
                refine new_lst S11 (by decide) fun D4 H12 S12 => ?_
                repeat tb_start
                refine new_tupD (K := K) S12 .nil (by simp) fun t B13 H13 e13 S13 ht => ?_
                obtain ⟨B14, e14, S14, hD4⟩ := S13.toData (K := K) (ds := []) .nil
                repeat tb_start
                exact ⟨_, [], _, [], _, _, _, _, _, _, _, rfl, S14, e11.trans (e13.trans e14), hS11, hD4, NsOk.nil rs, ht.up e14, ⟨by decide, fun _ h => nomatch h⟩, trivial⟩
              · repeat tb_start
                refine ifd (fun hh2 => ?_) (fun hh2 => ?_)
                · repeat tb_start
                  refine new_lst S11 (by decide) fun D4 H12 S12 => ?_
                  repeat tb_start
                  refine new_tupD (K := K) S12 .nil (by simp) fun t B13 H13 e13 S13 ht => ?_
                  obtain ⟨B14, e14, S14, hD4⟩ := S13.toData (K := K) (ds := []) .nil
                  repeat tb_start
                  exact ⟨_, [], _, [], _, _, _, _, _, _, _, rfl, S14, e11.trans (e13.trans e14), hS11, hD4, NsOk.nil rs, ht.up e14, ⟨by decide, fun _ h => nomatch h⟩, trivial⟩
                · repeat tb_start
                  exact ⟨_, ns, _, st, _, _, _, _, _, _, _, rfl, S11, e11, hS11, hvn10, NO, hvs, SO, trivial⟩
            · clear hvn10 hvs SO NO S10 hS4 e11 hst
              rintro σ7 H11 ⟨vn, ns, vs, st, x5, x7, x8, m, cs, kk, B11, rfl, S11, e11, hS11, hvn, NO, hvs, SO, _⟩
              have glen := M.good.len
              repeat tb_start
              refine cutS (PSt K ⟨B, H, [p, q]⟩ B1 p q D acc rs z mx fun ns => ((lawLed rs 12 ns).map (·.2)).sum ≤ 200) ?_ ?_
              · repeat tb_start
                have hacc11 := hacc.up e11
                refine ⟨B11, D, acc, vn, _, rs, ns, rfl, S11.ex, S11.sqMem (.head _), hacc11, hvn, .inl rfl, M.good, fun x hx => by rw [List.take_of_length_le (by omega)]; exact NO.known x hx, NO.many, by have := NO.len; omega, fun D2 H12 T12 => ?_⟩
                have S12 := S11.callN T12
                refine sumQ (S12.rdMem (.head _)) (kvI_vals _) ?_
                have S13 := S12.drop
                repeat tb_start
                refine ifd (fun hh => ?_) (fun hh => ?_)
                · repeat tb_start
                  refine new_lst S13 (by decide) fun D4 H14 S14 => ?_
                  obtain ⟨B15, e15, S15, hD4⟩ := S14.toData (K := K) (ds := []) .nil
                  repeat tb_start
                  exact ⟨_, [], _, st, _, _, _, _, _, _, _, rfl, S15, e11.trans e15, hS11, hD4, NsOk.nil rs, hvs.up e15, SO, (by show (0 : Int) ≤ 200; decide)⟩
                · repeat tb_start
                  exact ⟨_, ns, _, st, _, _, _, _, _, _, _, rfl, S13, e11, hS11, hvn, NO, hvs, SO, Int.le_trans (Int.not_lt.mp hh) (by decide)⟩
              · clear hvn NO hvs SO S11 hS11 e11
                rintro σ8 H12 ⟨vn, ns, vs, st, x5, x7, x8, m, cs, kk, B12, rfl, S12, e12, hS12, hvn, NO, hvs, SO, hsum⟩
                repeat tb_start
                have hc : atI signs12.cps.toList z = some (signs12.cps.toList.getD rs.length 0) := by
                  rw [← hzz]
                  refine atI_nat ?_
                  rw [List.getD_eq_getElem?_getD, List.getElem?_eq_getElem (show rs.length < signs12.cps.toList.length from hi12)]
                  rfl
                refine v_ixS (z := signs12) (by decide +kernel) hc ?_
                refine v_addS (by rw [sizeLine_eq]; show 1 + 1 ≤ _; omega) ?_
                repeat tb_start
                refine v_tupD S12 hvn fun vt B13 H13 e13 S13 hvt => ?_
                repeat tb_start
                refine nextQ [(D, .lst acc)] [] S13 hS12 (by decide) (by decide) fun r1 m1 cs1 kk1 H14 q0 q1 hS14 S14 => ?_
                repeat tb_start
                refine nextQ [(D, .lst acc)] [] S14 hS14 (by decide) (by decide) fun r2 m2 cs2 kk2 H15 q2 q3 hS15 S15 => ?_
                repeat tb_start
                refine new_tupD (K := K) S15 (.cons (.str (nameAt rs.length)) (.cons hvt (.cons (hvs.up e13) (.cons (.int (1 + r1)) (.cons (.int r2) .nil))))) (by simp) fun t B16 H16 e16 S16 ht => ?_
                have hla := hacc.length
                rw [List.length_map] at hla
                refine v_appendN 0 S16 rfl (by rw [sizeLine_eq]; omega) fun H17 S17 => ?_
                repeat tb_start
                refine NxE.mk' S17 (e1.trans (e2.trans (e12.trans (e13.trans e16)))) ?_
                refine ⟨_, _, _, _, _, _, rs ++ [⟨nameAt rs.length, ns, st, 1 + r1, r2⟩], _, _, _, _, rfl, M.snoc hi12 rfl (by show 1 ≤ 1 + r1 ∧ 1 + r1 ≤ 99; omega) (by show 0 ≤ r2 ∧ r2 ≤ 30; omega) NO.nd NO.known NO.many SO.1 SO.2 (n := 12) (by omega) hsum, by rw [List.length_append, hlen]; rfl, ?_, hS15, rfl⟩
                rw [List.map_append]
                exact (((hacc.up e12).up e13).up e16).append (.cons ht .nil)
    · rintro σ B1 L1 H3 ⟨_, _, _, _, _, _, rs, acc, m, cs, kk, rfl, M, hlen, hacc, hS3, rfl⟩ e1 S3
      rw [List.length_range] at hlen
      repeat tb_start
      obtain ⟨B4, e4, S4, hD⟩ := S3.toData hacc
      exact k _ rs _ _ _ _ _ (e1.trans e4) M (by intro z; rw [z] at hlen; simp at hlen; omega) (by omega) hD hS3 S4
end
end LW

namespace LW
open PySem PySem.Spec PyProof.Rows L2 WK PM
abbrev s_written : Stmt := topS 23
theorem sc_written : FnScope ["parts", "rows", "name", "needs", "steps", "lot", "lead", "part", "many", "machine", "minutes"] ["parts"] (defScope s_written) := ⟨rfl, rfl, rfl, by decide +kernel, rfl, by decide +kernel, by decide +kernel⟩
def spWritten (K : PySem.W.Frag) : Sp := fun vs H Q _ => ∃ (B : Hp) (v : V) (rs : List PRow), vs = [v] ∧ Ex B H ∧ Dpl K B v (rs.map encRow) ∧ GoodBook rs ∧ ∀ B' H', Ok ⟨B, H, []⟩ B' [] H' → Q (.str (textOf rs)) H'
section
variable {P : Program} {w : World} {K : PySem.W.Frag} {mg : Str → Option Value} {base : Heap}
theorem ok_written {f CP : Addr} {fd : FuncData} (F : Fun K "written" "written" s_written f fd) (G_Parts : MkG P w K mg base 3 CP "Parts" ["self", "told"] (spPInit K CP)) (n_str : mg "str" = none)
    (c_PART : GlS mg "PART" "part") (c_NEED : GlS mg "NEED" "need") (c_STEP : GlS mg "STEP" "step") : FnOk P w K mg base CX0 5 f fd ["parts"] (spWritten K) := by
  refine F.ok sc_written (fun vs H Q E h => ?_) (fun cdv A outer s H vs Q E hr h => ?_)
  · obtain ⟨B, v, rs, rfl, _⟩ := h
    rfl
  · obtain ⟨B, v, rs, rfl, ex, hv, G, k⟩ := h
    have S := Ok.start0 ex
    have glen := G.len
    refine with_al (P := P) (w := w) (K := K) hr (fun al => ?_)
    refine ⟨_, (pss_cons (ps_expr (pe_mk G_Parts (hr.mono (by first | decide | omega)) rfl (pa_cons (pv 0) pa_nil))) (pss_cons (ps_asg (pe_lst pa_nil) (pg_name (i := 1) sc_written.nd rfl (by first | exact Or.inl rfl | exact Or.inr rfl))) (pss_cons (ps_for PassesOwn.never rfl (pi_val al (pv 0)) (pg_tupU (n := 5) K (pgs_cons (pg_name (i := 2) sc_written.nd rfl (by first | exact Or.inl rfl | exact Or.inr rfl)) (pgs_cons (pg_name (i := 3) sc_written.nd rfl (by first | exact Or.inl rfl | exact Or.inr rfl)) (pgs_cons (pg_name (i := 4) sc_written.nd rfl (by first | exact Or.inl rfl | exact Or.inr rfl)) (pgs_cons (pg_name (i := 5) sc_written.nd rfl (by first | exact Or.inl rfl | exact Or.inr rfl)) (pgs_cons (pg_name (i := 6) sc_written.nd rfl (by first | exact Or.inl rfl | exact Or.inr rfl)) pgs_nil)))))) (pss_cons (ps_expr (pe_bmU K PySem.F.plainAttrs_list PySem.F.slot_list_append PySem.F.type_list_append (metU al) (pv 1) (pa_cons (pe_bmU K PySem.F.plainAttrs_str PySem.F.slot_str_join PySem.F.type_str_join (metU al) pe_str (pa_cons (pe_lst (pa_cons (pe_gs c_PART rfl) (pa_cons (pv 2) (pa_cons (pe_callTy (callU al) (by rfl) n_str b_str (pa_cons (pv 5) pa_nil)) (pa_cons (pe_callTy (callU al) (by rfl) n_str b_str (pa_cons (pv 6) pa_nil)) pa_nil))))) pa_nil)) pa_nil))) (pss_cons (ps_expr (pe_bmU K PySem.F.plainAttrs_list PySem.F.slot_list_extend PySem.F.type_list_extend (metU al) (pv 1) (pa_cons (pe_lc (own := [("part", 7), ("many", 8)]) al.calm sc_written.nd (pi_val al (pv 3)) (blkOk_by (own := [("part", 7), ("many", 8)]) (N := ["parts", "rows", "name", "needs", "steps", "lot", "lead", "part", "many", "machine", "minutes"]) (sc := (defScope s_written)) (by decide +kernel)) (fun _ _ _ _ _ => (pg_tupU (n := 2) K (pgs_cons (pg_name (i := 7) sc_written.nd rfl (by first | exact Or.inl rfl | exact Or.inr rfl)) (pgs_cons (pg_name (i := 8) sc_written.nd rfl (by first | exact Or.inl rfl | exact Or.inr rfl)) pgs_nil)))) (fun _ _ _ _ _ => pts_nil) (fun _ _ _ _ _ => (pe_bmU K PySem.F.plainAttrs_str PySem.F.slot_str_join PySem.F.type_str_join (metU al) pe_str (pa_cons (pe_lst (pa_cons (pe_gs c_NEED rfl) (pa_cons (pv 7) (pa_cons (pe_callTy (callU al) (by rfl) n_str b_str (pa_cons (pv 8) pa_nil)) pa_nil)))) pa_nil)))) pa_nil))) (pss_one (ps_expr (pe_bmU K PySem.F.plainAttrs_list PySem.F.slot_list_extend PySem.F.type_list_extend (metU al) (pv 1) (pa_cons (pe_lc (own := [("machine", 9), ("minutes", 10)]) al.calm sc_written.nd (pi_val al (pv 4)) (blkOk_by (own := [("machine", 9), ("minutes", 10)]) (N := ["parts", "rows", "name", "needs", "steps", "lot", "lead", "part", "many", "machine", "minutes"]) (sc := (defScope s_written)) (by decide +kernel)) (fun _ _ _ _ _ => (pg_tupU (n := 2) K (pgs_cons (pg_name (i := 9) sc_written.nd rfl (by first | exact Or.inl rfl | exact Or.inr rfl)) (pgs_cons (pg_name (i := 10) sc_written.nd rfl (by first | exact Or.inl rfl | exact Or.inr rfl)) pgs_nil)))) (fun _ _ _ _ _ => pts_nil) (fun _ _ _ _ _ => (pe_bmU K PySem.F.plainAttrs_str PySem.F.slot_str_join PySem.F.type_str_join (metU al) pe_str (pa_cons (pe_lst (pa_cons (pe_gs c_STEP rfl) (pa_cons (pe_callTy (callU al) (by rfl) n_str b_str (pa_cons (pv 9) pa_nil)) (pa_cons (pe_callTy (callU al) (by rfl) n_str b_str (pa_cons (pv 10) pa_nil)) pa_nil)))) pa_nil)))) pa_nil))))))) (pss_one (ps_ret (pe_bmU K PySem.F.plainAttrs_str PySem.F.slot_str_join PySem.F.type_str_join (metU al) pe_str (pa_cons (pv 1) pa_nil))))))), ?_⟩
    repeat tb_start
    refine mkQ S fun p dx H1 S1 => ?_
    refine ⟨B, p, dx, v, rs, rfl, S1.sub (L1 := [_]), hv, G, fun a l rkv lkv B2 H2 e2 RK LK T2 => retQ ?_⟩
    have S2 := (S1.call (L1 := [_]) (L2 := []) T2).drop.drop.drop
    repeat tb_start
    refine new_lst S2 (by decide) fun D H3 S3 => ?_
    repeat tb_start
    refine forDW S3 (hv.up e2) (fun i σ B1 L1 => ∃ x2 x3 x4 x5 x6 x7 x8 x9 x10, σ = [some v, some (.ref D), x2, x3, x4, x5, x6, x7, x8, x9, x10] ∧ L1 = [(D, .lst (((rs.take i).flatMap rowLines).map V.str))]) ?_ ?_ ?_
    · exact ⟨_, _, _, _, _, _, _, _, _, rfl, rfl⟩
    · rintro i r xv σ B3 B4 L4 H4 hr0 ⟨_, _, _, _, _, _, _, _, _, rfl, rfl⟩ e3 e4 S4 hxv
      have R := G.row i r hr0
      obtain ⟨lo1, lo2⟩ := R.lot
      obtain ⟨le1, le2⟩ := R.lead
      have hfl : ((rs.take i).flatMap rowLines).length ≤ 216 := by
        have := flat_len (rs := rs.take i) fun x hx => G.lines18 x (List.mem_of_mem_take hx)
        rw [List.length_take] at this
        omega
      refine r_gtupRow S4 hxv fun v2 v3 h2 h3 => ?_
      repeat tb_start
      refine v_strI (log2_small (by omega) (by omega)) ?_
      repeat tb_start
      refine v_strI (log2_small (by omega) (by omega)) ?_
      repeat tb_start
      refine new_lst S4 (by show 4 ≤ sizeLine; decide) fun D5 H5 S5 => ?_
      repeat tb_start
      refine v_joinL (ys := ["part", r.name, numS r.lot, numS r.lead]) (S5.sqMem (.head _)) (part_sum R) ?_
      have S6 := S5.drop
      repeat tb_start
      refine v_appendN 0 S6 rfl (by rw [List.length_map, sizeLine_eq]; omega) fun H7 S7 => ?_
      repeat tb_start
      refine lcPureT S7 h2 (fun _ => true) (fun x => .str (needLine x)) (by have := G.lines18 r (List.mem_of_getElem? hr0); unfold rowLines at this; rw [List.length_cons, List.length_append, List.length_map, List.length_map] at this; omega) ?_ ?_
      · rintro x xv2 B8 D8 acc H8 C Cs hx e8 S8 hxv2 kC kS
        obtain ⟨m1, m2⟩ := R.many x hx
        repeat tb_start
        refine r_gtupSI S8 hxv2 ?_
        repeat tb_start
        refine ⟨rfl, ?_⟩
        repeat tb_start
        refine v_strI (log2_small (by omega) (by omega)) ?_
        repeat tb_start
        refine new_lst S8 (by show 3 ≤ sizeLine; decide) fun D9 H9 S9 => ?_
        repeat tb_start
        refine v_joinL (ys := ["need", x.1, numS x.2]) (S9.sqMem (.head _)) (need_sum (R.known x hx) m1 m2 G hr0) ?_
        exact kC _ _ _ rfl (Ex.refl _) S9.drop (.str _)
      · intro D8 acc8 B8 H8 e8 S8 hacc8
        rw [filter_tt, show r.needs.map (fun x => PyData.str (needLine x)) = (r.needs.map needLine).map PyData.str by rw [List.map_map]; rfl] at hacc8
        obtain rfl := hacc8.strs
        have hnl := G.lines18 r (List.mem_of_getElem? hr0)
        unfold rowLines at hnl
        rw [List.length_cons, List.length_append, List.length_map, List.length_map] at hnl
        repeat tb_start
        refine v_extendN 1 S8 rfl (S8.own _ (.head _)).1 (by simp only [List.length_map, List.length_append, List.length_cons, List.length_nil]; rw [sizeLine_eq]; omega) fun H9 S9 => ?_
        have S10 := (show Ok _ B8 [(D8, .lst ((r.needs.map needLine).map V.str)), (D, .lst (((((rs.take i).flatMap rowLines).map V.str) ++ [.str (partLine r)]) ++ (r.needs.map needLine).map V.str))] H9 from S9).drop
        have h3' := h3.up e8
        clear S9 S8
        repeat tb_start
        refine lcPureT S10 h3' (fun _ => true) (fun x => .str (stepLine x)) (by omega) ?_ ?_
        · rintro x xv2 B11 D11 acc H11 C Cs hx e11 S11 hxv2 kC kS
          obtain ⟨⟨m1, m2⟩, m3, m4⟩ := R.steps x hx
          repeat tb_start
          refine r_gtupII S11 hxv2 ?_
          repeat tb_start
          refine ⟨rfl, ?_⟩
          repeat tb_start
          refine v_strI (log2_small (by omega) (by omega)) ?_
          repeat tb_start
          refine v_strI (log2_small (by omega) (by omega)) ?_
          repeat tb_start
          refine new_lst S11 (by show 3 ≤ sizeLine; decide) fun D12 H12 S12 => ?_
          repeat tb_start
          refine v_joinL (ys := ["step", numS x.1, numS x.2]) (S12.sqMem (.head _)) (step_sum ⟨⟨m1, m2⟩, m3, m4⟩) ?_
          exact kC _ _ _ rfl (Ex.refl _) S12.drop (.str _)
        · intro D11 acc11 B11 H11 e11 S11 hacc11
          rw [filter_tt, show r.steps.map (fun x => PyData.str (stepLine x)) = (r.steps.map stepLine).map PyData.str by rw [List.map_map]; rfl] at hacc11
          obtain rfl := hacc11.strs
          repeat tb_start
          refine v_extendN 1 S11 rfl (S11.own _ (.head _)).1 (by simp only [List.length_map, List.length_append, List.length_cons, List.length_nil]; rw [sizeLine_eq]; omega) fun H12 S12 => ?_
          have S13 := (show Ok _ B11 [(D11, .lst ((r.steps.map stepLine).map V.str)), (D, .lst ((((((rs.take i).flatMap rowLines).map V.str) ++ [.str (partLine r)]) ++ (r.needs.map needLine).map V.str) ++ (r.steps.map stepLine).map V.str))] H12 from S12).drop
          repeat tb_start
          refine NxE.mk' S13 (e3.trans (e4.trans (e8.trans e11))) ?_
          refine ⟨_, _, _, _, _, _, _, _, _, rfl, ?_⟩
          rw [List.take_add_one, hr0, List.flatMap_append, List.map_append]
          simp only [Option.toList_some, List.flatMap_cons, List.flatMap_nil, List.append_nil, rowLines, List.map_cons, List.map_append, List.append_assoc, List.cons_append, List.nil_append]
    · rintro σ B3 L4 H4 ⟨_, _, _, _, _, _, _, _, _, rfl, rfl⟩ e3 S4
      rw [List.take_length] at S4
      repeat tb_start
      refine v_joinL (ys := rs.flatMap rowLines) (S4.sqMem (.head _)) (text_sum G) ?_
      exact k _ _ S4.drop
end
end LW

namespace LW
open PySem PySem.Spec PyProof.Rows L2 WK PM
abbrev s_number_in : Stmt := topS 24
theorem sc_number_in : FnScope ["word"] ["word"] (defScope s_number_in) := ⟨rfl, rfl, rfl, by decide +kernel, rfl, by decide +kernel, by decide +kernel⟩
def spNumberIn : Sp := fun vs H Q _ => ∃ (i : Int), vs = [.str (numS i)] ∧ 0 ≤ i ∧ i < 100 ∧ Q (.int i) H
section
variable {P : Program} {w : World} {K : PySem.W.Frag} {mg : Str → Option Value} {base : Heap}
theorem ok_number_in {f : Addr} {fd : FuncData} (F : Fun K "number_in" "number_in" s_number_in f fd) (n_len : mg "len" = none) (n_int : mg "int" = none) (c_FIGURES : GlS mg "FIGURES" figs) : FnOk P w K mg base CX0 1 f fd ["word"] spNumberIn := by
  refine F.ok sc_number_in (fun vs H Q E h => ?_) (fun cdv A outer s H vs Q E hr h => ?_)
  · obtain ⟨i, rfl, _⟩ := h
    rfl
  · obtain ⟨i, rfl, h0, h1, k⟩ := h
    obtain ⟨⟨l1, l2⟩, st, it, z0⟩ := num_fact ⟨i.toNat, by omega⟩
    have hi : (((⟨i.toNat, by omega⟩ : Fin 100).val : Nat) : Int) = i := by show ((i.toNat : Nat) : Int) = i; omega
    rw [hi] at l1 l2 st it z0
    refine with_al (P := P) (w := w) (K := K) hr (fun al => ?_)
    refine ⟨_, (pss_cons (ps_if (PW.pt (pw_or (pt_not (pt_chain (opU al) (opU al) pe_int (pe_callB (callU al) (by rfl) n_len b_len (pa_cons (pv 0) pa_nil)) pe_int)) (pw_or (pt_cmpR (opU al) (pe_bmU K PySem.F.plainAttrs_str PySem.F.slot_str_strip PySem.F.type_str_strip (metU al) (pv 0) (pa_cons (pe_gs c_FIGURES rfl) pa_nil)) pe_str (nomark _)) (pw_or1 (PW.pt (pw_and (pt_cmpR (opU al) (pe_ix (ixU al) (pv 0) pe_int (fun _ _ => rfl)) pe_str (nomark _)) (pw_and1 (pt_cmpR (opU al) (pv 0) pe_str (nomark _))))))))) (pss_one (ps_ret (pe_un un_neg pe_int))) pss_nil) (pss_one (ps_ret (pe_callTy (callU al) (by rfl) n_int b_int (pa_cons (pv 0) pa_nil))))), ?_⟩
    repeat tb_start
    refine v_stripS (by rw [sizeLine_eq]; omega) ?_
    rw [st]
    repeat tb_start
    refine ifndT rfl ?_
    repeat tb_start
    have hlen : (numS i).cps.toList.length = (numS i).length := Array.length_toList
    have hc : atI (numS i).cps.toList 0 = some ((numS i).cps.toList.getD 0 0) := by
      refine atI_nat (j := 0) ?_
      rw [List.getD_eq_getElem?_getD, List.getElem?_eq_getElem (by omega)]
      rfl
    refine v_ixS (by rw [sizeLine_eq]; omega) hc ?_
    repeat tb_start
    refine ifd (fun hh => ?_) (fun hh => ?_)
    · have h48 : (numS i).cps.toList.getD 0 0 = 48 := by
        have e1 : (⟨#[(numS i).cps.toList.getD 0 0]⟩ : Str) = ⟨#[48]⟩ := hh
        have e2 := congrArg (fun z : Str => z.cps.toList) e1
        simpa using e2
      have e0 := z0 h48
      repeat tb_start
      refine v_intS it (by omega) ?_
      exact k
    · repeat tb_start
      refine v_intS it (by omega) ?_
      exact k
end
end LW

namespace LW
open PySem PySem.Spec PyProof.Rows L2 WK PM
abbrev s_Reader___init__ : Stmt := inClass (topS 25) 0
theorem sc_Reader___init__ : FnScope ["self"] ["self"] (defScope s_Reader___init__) := ⟨rfl, rfl, rfl, by decide +kernel, rfl, by decide +kernel, by decide +kernel⟩
abbrev s_Reader_does_take : Stmt := inClass (topS 25) 1
theorem sc_Reader_does_take : FnScope ["self", "words", "word", "rest", "lot", "lead", "second"] ["self", "words"] (defScope s_Reader_does_take) := ⟨rfl, rfl, rfl, by decide +kernel, rfl, by decide +kernel, by decide +kernel⟩
def spRInit (CR : Addr) : Sp := fun vs H Q _ => ∃ (B : Hp) (p dx : Addr), vs = [.ref p] ∧ Ok ⟨B, H, [p]⟩ B [(p, .ins CR dx [])] H ∧ ∀ a H', Ok ⟨B, H, [p]⟩ B [(a, .lst []), (p, .ins CR dx [("rows", .ref a)])] H' → Q .non H'
section
variable {P : Program} {w : World} {K : PySem.W.Frag} {mg : Str → Option Value} {base : Heap}
theorem ok_reader_init {f CR : Addr} {fd : FuncData} (F : Fun K "__init__" "Reader.__init__" s_Reader___init__ f fd) (clR : Cls K CR) (nRows : NoAttr K CR "rows") : FnOk P w K mg base CX0 1 f fd ["self"] (spRInit CR) := by
  refine F.ok sc_Reader___init__ (fun vs H Q E h => ?_) (fun cdv A outer s H vs Q E hr h => ?_)
  · obtain ⟨B, p, dx, rfl, _⟩ := h
    rfl
  · obtain ⟨B, p, dx, rfl, S, k⟩ := h
    refine with_al (P := P) (w := w) (K := K) hr (fun al => ?_)
    refine ⟨_, (pss_one (ps_fld (pv 0) (pe_lst pa_nil) rfl)), ?_⟩
    repeat tb_start
    refine new_lst S (by decide) fun a H1 S1 => ?_
    repeat tb_start
    refine sfdQ 1 S1 rfl clR nRows (by decide) rfl fun H2 S2 => ?_
    exact k a _ S2
/-- a line of a part -/
def spTakeP (K : PySem.W.Frag) (CR : Addr) : Sp := fun vs H Q _ => ∃ (B : Hp) (p dx a b : Addr) (acc : List V) (z : Str) (i j : Int), vs = [.ref p, .ref b] ∧ Ok ⟨B, H, [a]⟩ B [(a, .lst acc)] H ∧ H p = some (.ins CR dx [("rows", .ref a)]) ∧ SqL K H b ((["part", z, numS i, numS j] : List Str).map V.str) ∧
  isNameM z = true ∧ (0 ≤ i ∧ i < 100) ∧ (0 ≤ j ∧ j < 100) ∧ acc.length ≤ 1000 ∧ ∀ c n s H', Ok ⟨B, H, [a]⟩ B [(c, .lst [.str z, .ref n, .ref s, .int i, .int j]), (s, .lst []), (n, .lst []), (a, .lst (acc ++ [.ref c]))] H' → Q (.bl true) H'
theorem ok_take_part {f CR : Addr} {fd : FuncData} (F : Fun K "does_take" "Reader.does_take" s_Reader_does_take f fd) (G_is_name : FnG P w K mg base 1 "is_name" ["word"] spIsName) (G_number_in : FnG P w K mg base 1 "number_in" ["word"] spNumberIn) (clR : Cls K CR) (nRows : NoAttr K CR "rows")
    (n_len : mg "len" = none) (c_PART : GlS mg "PART" "part") (c_NEED : GlS mg "NEED" "need") (c_STEP : GlS mg "STEP" "step") : FnOk P w K mg base CX0 2 f fd ["self", "words"] (spTakeP K CR) := by
  refine F.ok sc_Reader_does_take (fun vs H Q E h => ?_) (fun cdv A outer s H vs Q E hr h => ?_)
  · obtain ⟨B, p, dx, a, b, acc, z, i, j, rfl, _⟩ := h
    rfl
  · obtain ⟨B, p, dx, a, b, acc, z, i, j, rfl, S, hp, hb, hz, hi, hj, hacc, k⟩ := h
    refine with_al (P := P) (w := w) (K := K) hr (fun al => ?_)
    refine ⟨_, (pss_cons (ps_asg (pv 1) (pg_star (n := 2) (i := 1) K (pgs_cons (pg_name (i := 2) sc_Reader_does_take.nd rfl (by first | exact Or.inl rfl | exact Or.inr rfl)) (pgs_star (pg_name (i := 3) sc_Reader_does_take.nd rfl (by first | exact Or.inl rfl | exact Or.inr rfl)) pgs_nil)) (by decide))) (pss_cons (ps_if (PW.pt (pw_and (pt_cmpR (opU al) (pv 2) (pe_gs c_PART rfl) (nomark _)) (pw_and1 (pt_cmpR (opU al) (pe_callB (callU al) (by rfl) n_len b_len (pa_cons (pv 3) pa_nil)) pe_int (nomark _))))) (pss_cons (ps_par (i := 4) (j := 5) al.calm sc_Reader_does_take.nd rfl rfl (by decide) rfl rfl (pa_cons (pe_fn G_number_in (hr.mono (by first | decide | omega)) rfl (pa_cons (pe_ix (ixU al) (pv 3) pe_int (fun _ _ => rfl)) pa_nil)) (pa_cons (pe_fn G_number_in (hr.mono (by first | decide | omega)) rfl (pa_cons (pe_ix (ixU al) (pv 3) pe_int (fun _ _ => rfl)) pa_nil)) pa_nil)) (by rfl)) (pss_cons (ps_if (PW.pt (pw_or (pt_not (pt_val (pe_fn G_is_name (hr.mono (by first | decide | omega)) rfl (pa_cons (pe_ix (ixU al) (pv 3) pe_int (fun _ _ => rfl)) pa_nil)))) (pw_or (pt_cmpR (opU al) (pv 4) pe_int (nomark _)) (pw_or1 (pt_cmpR (opU al) (pv 5) pe_int (nomark _)))))) (pss_one (ps_ret pe_bl)) pss_nil) (pss_cons (ps_expr (pe_bmU K PySem.F.plainAttrs_list PySem.F.slot_list_append PySem.F.type_list_append (metU al) (pe_fldU K (pv 0) rfl) (pa_cons (pe_lst (pa_cons (pe_ix (ixU al) (pv 3) pe_int (fun _ _ => rfl)) (pa_cons (pe_lst pa_nil) (pa_cons (pe_lst pa_nil) (pa_cons (pv 4) (pa_cons (pv 5) pa_nil)))))) pa_nil))) (pss_one (ps_ret pe_bl))))) pss_nil) (pss_cons (ps_if (PW.pt (pw_or (pt_cmpR (opU al) (pe_fldU K (pv 0) rfl) (pe_lst pa_nil) (nomark _)) (pw_or1 (pt_cmpR (opU al) (pe_callB (callU al) (by rfl) n_len b_len (pa_cons (pv 3) pa_nil)) pe_int (nomark _))))) (pss_one (ps_ret pe_bl)) pss_nil) (pss_cons (ps_asg (pe_fn G_number_in (hr.mono (by first | decide | omega)) rfl (pa_cons (pe_ix (ixU al) (pv 3) pe_int (fun _ _ => rfl)) pa_nil)) (pg_name (i := 6) sc_Reader_does_take.nd rfl (by first | exact Or.inl rfl | exact Or.inr rfl))) (pss_cons (ps_if (PW.pt (pw_and (pt_cmpR (opU al) (pv 2) (pe_gs c_NEED rfl) (nomark _)) (pw_and (pt_val (pe_fn G_is_name (hr.mono (by first | decide | omega)) rfl (pa_cons (pe_ix (ixU al) (pv 3) pe_int (fun _ _ => rfl)) pa_nil))) (pw_and (pt_cmpR (opU al) (pv 6) pe_int (nomark _)) (pw_and1 (pt_cmpR (opU al) (pe_ix (ixU al) (pe_ix (ixU al) (pe_fldU K (pv 0) rfl) (pe_un un_neg pe_int) (fun _ _ => rfl)) pe_int (fun _ _ => rfl)) (pe_lst pa_nil) (nomark _))))))) (pss_cons (ps_expr (pe_bmU K PySem.F.plainAttrs_list PySem.F.slot_list_append PySem.F.type_list_append (metU al) (pe_ix (ixU al) (pe_ix (ixU al) (pe_fldU K (pv 0) rfl) (pe_un un_neg pe_int) (fun _ _ => rfl)) pe_int (fun _ _ => rfl)) (pa_cons (pe_tup (pa_cons (pe_ix (ixU al) (pv 3) pe_int (fun _ _ => rfl)) (pa_cons (pv 6) pa_nil))) pa_nil))) (pss_one (ps_ret pe_bl))) pss_nil) (pss_cons (ps_if (PW.pt (pw_and (pt_cmpR (opU al) (pv 2) (pe_gs c_STEP rfl) (nomark _)) (pw_and (pt_cmpR (opU al) (pe_fn G_number_in (hr.mono (by first | decide | omega)) rfl (pa_cons (pe_ix (ixU al) (pv 3) pe_int (fun _ _ => rfl)) pa_nil)) pe_int (nomark _)) (pw_and1 (pt_cmpR (opU al) (pv 6) pe_int (nomark _)))))) (pss_cons (ps_expr (pe_bmU K PySem.F.plainAttrs_list PySem.F.slot_list_append PySem.F.type_list_append (metU al) (pe_ix (ixU al) (pe_ix (ixU al) (pe_fldU K (pv 0) rfl) (pe_un un_neg pe_int) (fun _ _ => rfl)) pe_int (fun _ _ => rfl)) (pa_cons (pe_tup (pa_cons (pe_fn G_number_in (hr.mono (by first | decide | omega)) rfl (pa_cons (pe_ix (ixU al) (pv 3) pe_int (fun _ _ => rfl)) pa_nil)) (pa_cons (pv 6) pa_nil))) pa_nil))) (pss_one (ps_ret pe_bl))) pss_nil) (pss_one (ps_ret pe_bl)))))))), ?_⟩
    repeat tb_start
    refine r_gstar S hb (by show 2 ≤ 5; decide) (by show 4 ≤ 16384; decide) fun q H1 S1 => ?_
    replace S1 : Ok ⟨B, H, [a]⟩ B [(q, .lst [.str z, .str (numS i), .str (numS j)]), (a, .lst acc)] H1 := S1
    show gCons _ _ [.str "part", .ref q] _ _ _
    repeat tb_start
    refine ifdT rfl ?_
    repeat tb_start
    refine ⟨i, rfl, hi.1, hi.2, ?_⟩
    repeat tb_start
    refine ⟨j, rfl, hj.1, hj.2, ?_⟩
    repeat tb_start
    refine ⟨B, z, rfl, S1.ex, Nat.le_trans (name_len hz) (by decide), fun B2 H2 T2 => ?_⟩
    have S2 : Ok ⟨B, H, [a]⟩ B2 [(q, .lst [.str z, .str (numS i), .str (numS j)]), (a, .lst acc)] H2 := S1.callP T2
    rw [hz]
    have hpa : p ∉ [a] := fun hm => by
      rw [List.mem_singleton] at hm
      rw [hm, (S.own _ (.head _)).1] at hp
      cases hp
    have hp2 : H2 p = some (.ins CR dx [("rows", .ref a)]) := S2.keep p _ hp hpa
    repeat tb_start
    refine new_lst S2 (by decide) fun n H3 S3 => ?_
    repeat tb_start
    refine new_lst S3 (by decide) fun s' H4 S4 => ?_
    repeat tb_start
    refine new_lst S4 (by show 5 ≤ sizeLine; decide) fun c H5 S5 => ?_
    repeat tb_start
    refine v_appendN 4 S5 rfl (by rw [sizeLine_eq]; omega) fun H6 S6 => ?_
    repeat tb_start
    replace S6 : Ok ⟨B, H, [a]⟩ B2 ([(c, HO.lst [.str z, .ref n, .ref s', .int i, .int j]), (s', HO.lst []), (n, HO.lst []), (q, HO.lst [.str z, .str (numS i), .str (numS j)]), (a, HO.lst (acc ++ [V.ref c]))]) H6 := S6
    have S7 : Ok ⟨B, H, [a]⟩ B2 [(q, .lst [.str z, .str (numS i), .str (numS j)]), (c, .lst [.str z, .ref n, .ref s', .int i, .int j]), (s', .lst []), (n, .lst []), (a, .lst (acc ++ [.ref c]))] H6 := S6.perm (((List.perm_append_comm (l₁ := [(c, HO.lst [.str z, .ref n, .ref s', .int i, .int j]), (s', HO.lst []), (n, HO.lst [])]) (l₂ := [(q, HO.lst [.str z, .str (numS i), .str (numS j)])])).append_right [(a, HO.lst (acc ++ [V.ref c]))]))
    exact k c n s' _ (Ok.rebase (Ex.refl B) S7.drop)
end
end LW

namespace LW
open PySem PySem.Spec PyProof.Rows L2 WK PM
abbrev rdL (CR p dx a c n s : Addr) (acc : List V) (nm : Str) (lot lead : Int) (xs ys : List V) : Led :=
  [(n, .lst xs), (s, .lst ys), (c, .lst [.str nm, .ref n, .ref s, .int lot, .int lead]), (a, .lst (acc ++ [.ref c])), (p, .ins CR dx [("rows", .ref a)])]
/-- a line of a need -/
def spTakeN (K : PySem.W.Frag) (CR : Addr) : Sp := fun vs H Q _ => ∃ (B : Hp) (p dx a c n s b : Addr) (acc xs : List V) (nm z : Str) (lot lead i : Int), vs = [.ref p, .ref b] ∧ Ok ⟨B, H, [n, s, c, a, p]⟩ B (rdL CR p dx a c n s acc nm lot lead xs []) H ∧ SqL K H b ((["need", z, numS i] : List Str).map V.str) ∧
  isNameM z = true ∧ (0 ≤ i ∧ i < 100) ∧ xs.length ≤ 1000 ∧ ∀ t B' H', Ex B B' → Dp K B' t (encNeed (z, i)) → Ok ⟨B, H, [n, s, c, a, p]⟩ B' (rdL CR p dx a c n s acc nm lot lead (xs ++ [t]) []) H' → Q (.bl true) H'
/-- a line of a step -/
def spTakeS (K : PySem.W.Frag) (CR : Addr) : Sp := fun vs H Q _ => ∃ (B : Hp) (p dx a c n s b : Addr) (acc xs ys : List V) (nm : Str) (lot lead i j : Int), vs = [.ref p, .ref b] ∧ Ok ⟨B, H, [n, s, c, a, p]⟩ B (rdL CR p dx a c n s acc nm lot lead xs ys) H ∧ SqL K H b ((["step", numS i, numS j] : List Str).map V.str) ∧
  (0 ≤ i ∧ i < 100) ∧ (0 ≤ j ∧ j < 100) ∧ ys.length ≤ 1000 ∧ ∀ t B' H', Ex B B' → Dp K B' t (encStep (i, j)) → Ok ⟨B, H, [n, s, c, a, p]⟩ B' (rdL CR p dx a c n s acc nm lot lead xs (ys ++ [t])) H' → Q (.bl true) H'
section
variable {P : Program} {w : World} {K : PySem.W.Frag} {mg : Str → Option Value} {base : Heap}
theorem ok_take_need {f CR : Addr} {fd : FuncData} (F : Fun K "does_take" "Reader.does_take" s_Reader_does_take f fd) (G_is_name : FnG P w K mg base 1 "is_name" ["word"] spIsName) (G_number_in : FnG P w K mg base 1 "number_in" ["word"] spNumberIn) (clR : Cls K CR) (nRows : NoAttr K CR "rows")
    (n_len : mg "len" = none) (c_PART : GlS mg "PART" "part") (c_NEED : GlS mg "NEED" "need") (c_STEP : GlS mg "STEP" "step") : FnOk P w K mg base CX0 2 f fd ["self", "words"] (spTakeN K CR) := by
  refine F.ok sc_Reader_does_take (fun vs H Q E h => ?_) (fun cdv A outer s H vs Q E hr h => ?_)
  · obtain ⟨B, p, dx, a, c, n, s, b, acc, xs, nm, z, lot, lead, i, rfl, _⟩ := h
    rfl
  · obtain ⟨B, p, dx, a, c, n, s', b, acc, xs, nm, z, lot, lead, i, rfl, S, hb, hz, hi, hx, k⟩ := h
    refine with_al (P := P) (w := w) (K := K) hr (fun al => ?_)
    refine ⟨_, (pss_cons (ps_asg (pv 1) (pg_star (n := 2) (i := 1) K (pgs_cons (pg_name (i := 2) sc_Reader_does_take.nd rfl (by first | exact Or.inl rfl | exact Or.inr rfl)) (pgs_star (pg_name (i := 3) sc_Reader_does_take.nd rfl (by first | exact Or.inl rfl | exact Or.inr rfl)) pgs_nil)) (by decide))) (pss_cons (ps_if (PW.pt (pw_and (pt_cmpR (opU al) (pv 2) (pe_gs c_PART rfl) (nomark _)) (pw_and1 (pt_cmpR (opU al) (pe_callB (callU al) (by rfl) n_len b_len (pa_cons (pv 3) pa_nil)) pe_int (nomark _))))) (pss_cons (ps_par (i := 4) (j := 5) al.calm sc_Reader_does_take.nd rfl rfl (by decide) rfl rfl (pa_cons (pe_fn G_number_in (hr.mono (by first | decide | omega)) rfl (pa_cons (pe_ix (ixU al) (pv 3) pe_int (fun _ _ => rfl)) pa_nil)) (pa_cons (pe_fn G_number_in (hr.mono (by first | decide | omega)) rfl (pa_cons (pe_ix (ixU al) (pv 3) pe_int (fun _ _ => rfl)) pa_nil)) pa_nil)) (by rfl)) (pss_cons (ps_if (PW.pt (pw_or (pt_not (pt_val (pe_fn G_is_name (hr.mono (by first | decide | omega)) rfl (pa_cons (pe_ix (ixU al) (pv 3) pe_int (fun _ _ => rfl)) pa_nil)))) (pw_or (pt_cmpR (opU al) (pv 4) pe_int (nomark _)) (pw_or1 (pt_cmpR (opU al) (pv 5) pe_int (nomark _)))))) (pss_one (ps_ret pe_bl)) pss_nil) (pss_cons (ps_expr (pe_bmU K PySem.F.plainAttrs_list PySem.F.slot_list_append PySem.F.type_list_append (metU al) (pe_fldU K (pv 0) rfl) (pa_cons (pe_lst (pa_cons (pe_ix (ixU al) (pv 3) pe_int (fun _ _ => rfl)) (pa_cons (pe_lst pa_nil) (pa_cons (pe_lst pa_nil) (pa_cons (pv 4) (pa_cons (pv 5) pa_nil)))))) pa_nil))) (pss_one (ps_ret pe_bl))))) pss_nil) (pss_cons (ps_if (PW.pt (pw_or (pt_cmpR (opU al) (pe_fldU K (pv 0) rfl) (pe_lst pa_nil) (nomark _)) (pw_or1 (pt_cmpR (opU al) (pe_callB (callU al) (by rfl) n_len b_len (pa_cons (pv 3) pa_nil)) pe_int (nomark _))))) (pss_one (ps_ret pe_bl)) pss_nil) (pss_cons (ps_asg (pe_fn G_number_in (hr.mono (by first | decide | omega)) rfl (pa_cons (pe_ix (ixU al) (pv 3) pe_int (fun _ _ => rfl)) pa_nil)) (pg_name (i := 6) sc_Reader_does_take.nd rfl (by first | exact Or.inl rfl | exact Or.inr rfl))) (pss_cons (ps_if (PW.pt (pw_and (pt_cmpR (opU al) (pv 2) (pe_gs c_NEED rfl) (nomark _)) (pw_and (pt_val (pe_fn G_is_name (hr.mono (by first | decide | omega)) rfl (pa_cons (pe_ix (ixU al) (pv 3) pe_int (fun _ _ => rfl)) pa_nil))) (pw_and (pt_cmpR (opU al) (pv 6) pe_int (nomark _)) (pw_and1 (pt_cmpR (opU al) (pe_ix (ixU al) (pe_ix (ixU al) (pe_fldU K (pv 0) rfl) (pe_un un_neg pe_int) (fun _ _ => rfl)) pe_int (fun _ _ => rfl)) (pe_lst pa_nil) (nomark _))))))) (pss_cons (ps_expr (pe_bmU K PySem.F.plainAttrs_list PySem.F.slot_list_append PySem.F.type_list_append (metU al) (pe_ix (ixU al) (pe_ix (ixU al) (pe_fldU K (pv 0) rfl) (pe_un un_neg pe_int) (fun _ _ => rfl)) pe_int (fun _ _ => rfl)) (pa_cons (pe_tup (pa_cons (pe_ix (ixU al) (pv 3) pe_int (fun _ _ => rfl)) (pa_cons (pv 6) pa_nil))) pa_nil))) (pss_one (ps_ret pe_bl))) pss_nil) (pss_cons (ps_if (PW.pt (pw_and (pt_cmpR (opU al) (pv 2) (pe_gs c_STEP rfl) (nomark _)) (pw_and (pt_cmpR (opU al) (pe_fn G_number_in (hr.mono (by first | decide | omega)) rfl (pa_cons (pe_ix (ixU al) (pv 3) pe_int (fun _ _ => rfl)) pa_nil)) pe_int (nomark _)) (pw_and1 (pt_cmpR (opU al) (pv 6) pe_int (nomark _)))))) (pss_cons (ps_expr (pe_bmU K PySem.F.plainAttrs_list PySem.F.slot_list_append PySem.F.type_list_append (metU al) (pe_ix (ixU al) (pe_ix (ixU al) (pe_fldU K (pv 0) rfl) (pe_un un_neg pe_int) (fun _ _ => rfl)) pe_int (fun _ _ => rfl)) (pa_cons (pe_tup (pa_cons (pe_fn G_number_in (hr.mono (by first | decide | omega)) rfl (pa_cons (pe_ix (ixU al) (pv 3) pe_int (fun _ _ => rfl)) pa_nil)) (pa_cons (pv 6) pa_nil))) pa_nil))) (pss_one (ps_ret pe_bl))) pss_nil) (pss_one (ps_ret pe_bl)))))))), ?_⟩
    repeat tb_start
    refine r_gstar S hb (by show 2 ≤ 4; decide) (by show 3 ≤ 16384; decide) fun q H1 S1 => ?_
    replace S1 : Ok ⟨B, H, [n, s', c, a, p]⟩ B ((q, .lst [.str z, .str (numS i)]) :: rdL CR p dx a c n s' acc nm lot lead xs []) H1 := S1
    show gCons _ _ [.str "need", .ref q] _ _ _
    repeat tb_start
    refine ifdF (by decide) ?_
    repeat tb_start
    refine new_lst S1 (by decide) fun q2 H2 S2 => ?_
    repeat tb_start
    refine v_eqLen (S2.sqMem (.tail _ (.tail _ (.tail _ (.tail _ (.tail _ (.head _))))))) (S2.sqMem (.head _)) (.inl (by simp)) ?_
    have S3 := S2.drop
    clear S2 S1
    repeat tb_start
    refine ⟨i, rfl, hi.1, hi.2, ?_⟩
    repeat tb_start
    refine ifdT rfl ?_
    repeat tb_start
    refine ⟨B, z, rfl, S3.ex, Nat.le_trans (name_len hz) (by decide), fun B4 H4 T4 => ?_⟩
    have S4 := S3.callP T4
    have e4 := T4.ex0
    rw [hz]
    clear S3 T4
    repeat tb_start
    refine v_ixL (S4.sqMem (.tail _ (.tail _ (.tail _ (.tail _ (.head _)))))) (atI_last _ _) ?_
    repeat tb_start
    refine new_lst S4 (by decide) fun q2 H2 S2 => ?_
    repeat tb_start
    refine v_eqLen (S2.sqMem (.tail _ (.tail _ (.tail _ (.head _))))) (S2.sqMem (.head _)) (.inr ⟨rfl, rfl⟩) ?_
    have S5 := S2.drop
    clear S2 S4
    repeat tb_start
    refine v_ixL (S5.sqMem (.tail _ (.tail _ (.tail _ (.tail _ (.head _)))))) (atI_last _ _) ?_
    repeat tb_start
    refine new_tupD (K := K) S5 (.cons (.str z) (.cons (.int i) .nil)) (by simp) fun t B6 H6 e6 S6 ht => ?_
    repeat tb_start
    refine v_appendN 1 S6 rfl (by rw [sizeLine_eq]; omega) fun H7 S7 => ?_
    repeat tb_start
    exact k _ _ _ (by nest_room) ht ((show Ok _ B6 ((q, .lst [.str z, .str (numS i)]) :: rdL CR p dx a c n s' acc nm lot lead (xs ++ [.ref t]) []) H7 from S7).drop)
theorem ok_take_step {f CR : Addr} {fd : FuncData} (F : Fun K "does_take" "Reader.does_take" s_Reader_does_take f fd) (G_is_name : FnG P w K mg base 1 "is_name" ["word"] spIsName) (G_number_in : FnG P w K mg base 1 "number_in" ["word"] spNumberIn) (clR : Cls K CR) (nRows : NoAttr K CR "rows")
    (n_len : mg "len" = none) (c_PART : GlS mg "PART" "part") (c_NEED : GlS mg "NEED" "need") (c_STEP : GlS mg "STEP" "step") : FnOk P w K mg base CX0 2 f fd ["self", "words"] (spTakeS K CR) := by
  refine F.ok sc_Reader_does_take (fun vs H Q E h => ?_) (fun cdv A outer s H vs Q E hr h => ?_)
  · obtain ⟨B, p, dx, a, c, n, s, b, acc, xs, ys, nm, lot, lead, i, j, rfl, _⟩ := h
    rfl
  · obtain ⟨B, p, dx, a, c, n, s', b, acc, xs, ys, nm, lot, lead, i, j, rfl, S, hb, hi, hj, hx, k⟩ := h
    refine with_al (P := P) (w := w) (K := K) hr (fun al => ?_)
    refine ⟨_, (pss_cons (ps_asg (pv 1) (pg_star (n := 2) (i := 1) K (pgs_cons (pg_name (i := 2) sc_Reader_does_take.nd rfl (by first | exact Or.inl rfl | exact Or.inr rfl)) (pgs_star (pg_name (i := 3) sc_Reader_does_take.nd rfl (by first | exact Or.inl rfl | exact Or.inr rfl)) pgs_nil)) (by decide))) (pss_cons (ps_if (PW.pt (pw_and (pt_cmpR (opU al) (pv 2) (pe_gs c_PART rfl) (nomark _)) (pw_and1 (pt_cmpR (opU al) (pe_callB (callU al) (by rfl) n_len b_len (pa_cons (pv 3) pa_nil)) pe_int (nomark _))))) (pss_cons (ps_par (i := 4) (j := 5) al.calm sc_Reader_does_take.nd rfl rfl (by decide) rfl rfl (pa_cons (pe_fn G_number_in (hr.mono (by first | decide | omega)) rfl (pa_cons (pe_ix (ixU al) (pv 3) pe_int (fun _ _ => rfl)) pa_nil)) (pa_cons (pe_fn G_number_in (hr.mono (by first | decide | omega)) rfl (pa_cons (pe_ix (ixU al) (pv 3) pe_int (fun _ _ => rfl)) pa_nil)) pa_nil)) (by rfl)) (pss_cons (ps_if (PW.pt (pw_or (pt_not (pt_val (pe_fn G_is_name (hr.mono (by first | decide | omega)) rfl (pa_cons (pe_ix (ixU al) (pv 3) pe_int (fun _ _ => rfl)) pa_nil)))) (pw_or (pt_cmpR (opU al) (pv 4) pe_int (nomark _)) (pw_or1 (pt_cmpR (opU al) (pv 5) pe_int (nomark _)))))) (pss_one (ps_ret pe_bl)) pss_nil) (pss_cons (ps_expr (pe_bmU K PySem.F.plainAttrs_list PySem.F.slot_list_append PySem.F.type_list_append (metU al) (pe_fldU K (pv 0) rfl) (pa_cons (pe_lst (pa_cons (pe_ix (ixU al) (pv 3) pe_int (fun _ _ => rfl)) (pa_cons (pe_lst pa_nil) (pa_cons (pe_lst pa_nil) (pa_cons (pv 4) (pa_cons (pv 5) pa_nil)))))) pa_nil))) (pss_one (ps_ret pe_bl))))) pss_nil) (pss_cons (ps_if (PW.pt (pw_or (pt_cmpR (opU al) (pe_fldU K (pv 0) rfl) (pe_lst pa_nil) (nomark _)) (pw_or1 (pt_cmpR (opU al) (pe_callB (callU al) (by rfl) n_len b_len (pa_cons (pv 3) pa_nil)) pe_int (nomark _))))) (pss_one (ps_ret pe_bl)) pss_nil) (pss_cons (ps_asg (pe_fn G_number_in (hr.mono (by first | decide | omega)) rfl (pa_cons (pe_ix (ixU al) (pv 3) pe_int (fun _ _ => rfl)) pa_nil)) (pg_name (i := 6) sc_Reader_does_take.nd rfl (by first | exact Or.inl rfl | exact Or.inr rfl))) (pss_cons (ps_if (PW.pt (pw_and (pt_cmpR (opU al) (pv 2) (pe_gs c_NEED rfl) (nomark _)) (pw_and (pt_val (pe_fn G_is_name (hr.mono (by first | decide | omega)) rfl (pa_cons (pe_ix (ixU al) (pv 3) pe_int (fun _ _ => rfl)) pa_nil))) (pw_and (pt_cmpR (opU al) (pv 6) pe_int (nomark _)) (pw_and1 (pt_cmpR (opU al) (pe_ix (ixU al) (pe_ix (ixU al) (pe_fldU K (pv 0) rfl) (pe_un un_neg pe_int) (fun _ _ => rfl)) pe_int (fun _ _ => rfl)) (pe_lst pa_nil) (nomark _))))))) (pss_cons (ps_expr (pe_bmU K PySem.F.plainAttrs_list PySem.F.slot_list_append PySem.F.type_list_append (metU al) (pe_ix (ixU al) (pe_ix (ixU al) (pe_fldU K (pv 0) rfl) (pe_un un_neg pe_int) (fun _ _ => rfl)) pe_int (fun _ _ => rfl)) (pa_cons (pe_tup (pa_cons (pe_ix (ixU al) (pv 3) pe_int (fun _ _ => rfl)) (pa_cons (pv 6) pa_nil))) pa_nil))) (pss_one (ps_ret pe_bl))) pss_nil) (pss_cons (ps_if (PW.pt (pw_and (pt_cmpR (opU al) (pv 2) (pe_gs c_STEP rfl) (nomark _)) (pw_and (pt_cmpR (opU al) (pe_fn G_number_in (hr.mono (by first | decide | omega)) rfl (pa_cons (pe_ix (ixU al) (pv 3) pe_int (fun _ _ => rfl)) pa_nil)) pe_int (nomark _)) (pw_and1 (pt_cmpR (opU al) (pv 6) pe_int (nomark _)))))) (pss_cons (ps_expr (pe_bmU K PySem.F.plainAttrs_list PySem.F.slot_list_append PySem.F.type_list_append (metU al) (pe_ix (ixU al) (pe_ix (ixU al) (pe_fldU K (pv 0) rfl) (pe_un un_neg pe_int) (fun _ _ => rfl)) pe_int (fun _ _ => rfl)) (pa_cons (pe_tup (pa_cons (pe_fn G_number_in (hr.mono (by first | decide | omega)) rfl (pa_cons (pe_ix (ixU al) (pv 3) pe_int (fun _ _ => rfl)) pa_nil)) (pa_cons (pv 6) pa_nil))) pa_nil))) (pss_one (ps_ret pe_bl))) pss_nil) (pss_one (ps_ret pe_bl)))))))), ?_⟩
    repeat tb_start
    refine r_gstar S hb (by show 2 ≤ 4; decide) (by show 3 ≤ 16384; decide) fun q H1 S1 => ?_
    replace S1 : Ok ⟨B, H, [n, s', c, a, p]⟩ B ((q, .lst [.str (numS i), .str (numS j)]) :: rdL CR p dx a c n s' acc nm lot lead xs ys) H1 := S1
    show gCons _ _ [.str "step", .ref q] _ _ _
    repeat tb_start
    refine ifdF (by decide) ?_
    repeat tb_start
    refine new_lst S1 (by decide) fun q2 H2 S2 => ?_
    repeat tb_start
    refine v_eqLen (S2.sqMem (.tail _ (.tail _ (.tail _ (.tail _ (.tail _ (.head _))))))) (S2.sqMem (.head _)) (.inl (by simp)) ?_
    have S3 := S2.drop
    clear S2 S1
    repeat tb_start
    refine ⟨j, rfl, hj.1, hj.2, ?_⟩
    repeat tb_start
    refine ifdF (by decide) ?_
    repeat tb_start
    refine ifdT rfl ?_
    repeat tb_start
    refine ⟨i, rfl, hi.1, hi.2, ?_⟩
    repeat tb_start
    refine v_ixL (S3.sqMem (.tail _ (.tail _ (.tail _ (.tail _ (.head _)))))) (atI_last _ _) ?_
    repeat tb_start
    refine ⟨i, rfl, hi.1, hi.2, ?_⟩
    repeat tb_start
    refine new_tupD (K := K) S3 (.cons (.int i) (.cons (.int j) .nil)) (by simp) fun t B6 H6 e6 S6 ht => ?_
    repeat tb_start
    refine v_appendN 2 S6 rfl (by rw [sizeLine_eq]; omega) fun H7 S7 => ?_
    repeat tb_start
    exact k _ _ _ (by nest_room) ht ((show Ok _ B6 ((q, .lst [.str (numS i), .str (numS j)]) :: rdL CR p dx a c n s' acc nm lot lead xs (ys ++ [.ref t])) H7 from S7).drop)
end
end LW

namespace LW
open PySem PySem.Spec PyProof.Rows L2 WK PM
abbrev s_read : Stmt := topS 26
theorem sc_read : FnScope ["text", "reader", "row", "line", "found", "name", "needs", "steps", "lot", "lead"] ["text"] (defScope s_read) := ⟨rfl, rfl, rfl, by decide +kernel, rfl, by decide +kernel, by decide +kernel⟩
abbrev encL (r : PRow) : PyData := .list [.str r.name, .list (r.needs.map encNeed), .list (r.steps.map encStep), .int r.lot, .int r.lead]
abbrev spTake (K : PySem.W.Frag) (CR : Addr) : Sp := spOr (spTakeP K CR) (spOr (spTakeN K CR) (spTakeS K CR))
/-- what the reader holds -/
def RdI (K : PySem.W.Frag) (CR p dx a : Addr) (B : Hp) (L : Led) : RdS → Prop
  | none => L = [(a, .lst []), (p, .ins CR dx [("rows", .ref a)])]
  | some (qs, r) => ∃ c n s acc xs ys, L = rdL CR p dx a c n s acc r.name r.lot r.lead xs ys ∧ DpAll K B acc (qs.map encL) ∧ DpAll K B xs (r.needs.map encNeed) ∧ DpAll K B ys (r.steps.map encStep)
theorem RdI.up {K : PySem.W.Frag} {CR p dx a : Addr} {B B' : Hp} {L : Led} (e : Ex B B') : ∀ {s : RdS}, RdI K CR p dx a B L s → RdI K CR p dx a B' L s
  | none, h => h
  | some (qs, r), ⟨c, n, s, acc, xs, ys, h, h1, h2, h3⟩ => ⟨c, n, s, acc, xs, ys, h, h1.up e, h2.up e, h3.up e⟩
/-- at the end all is data -/
theorem RdI.end {K : PySem.W.Frag} {CR p dx a : Addr} {F : Ent} {B H : Hp} {L : Led} : ∀ {s : RdS}, RdI K CR p dx a B L s → Ok F B L H → ∃ B', Ex B B' ∧ Ok F B' [(p, .ins CR dx [("rows", .ref a)])] H ∧ Dp K B' (.ref a) (.list ((rdRows s).map encL))
  | none, h, S => by
    subst h
    exact S.toData (ds := []) .nil
  | some (qs, r), ⟨c, n, s, acc, xs, ys, h, h1, h2, h3⟩, S => by
    subst h
    obtain ⟨B1, e1, S1, d1⟩ := S.toData h2
    obtain ⟨B2, e2, S2, d2⟩ := S1.toData (h3.up e1)
    obtain ⟨B3, e3, S3, d3⟩ := S2.toData (ds := [.str r.name, .list (r.needs.map encNeed), .list (r.steps.map encStep), .int r.lot, .int r.lead]) (.cons (.str _) (.cons (d1.up e2) (.cons d2 (.cons (.int _) (.cons (.int _) .nil)))))
    obtain ⟨B4, e4, S4, d4⟩ := S3.toData ((h1.up (e1.trans (e2.trans e3))).append (.cons d3 .nil))
    refine ⟨B4, e1.trans (e2.trans (e3.trans e4)), S4, ?_⟩
    rw [show rdRows (some (qs, r)) = qs ++ [r] from rfl, List.map_append]
    exact d4
theorem r_glstRow {K : PySem.W.Frag} {F : Ent} {B H : Hp} {L : Led} {σ : L2.St} {QG : L2.St → Hp → Prop} {gs : TGs} {v : V} {r : PRow} (S : Ok F B L H) (h : Dp K B v (encL r)) (k : ∀ v2 v3, Dp K B v2 (.list (r.needs.map encNeed)) → Dp K B v3 (.list (r.steps.map encStep)) → gs [.str r.name, v2, v3, .int r.lot, .int r.lead] σ H QG) : gLst K 5 gs v σ H QG :=
  r_glstD S h rfl fun vs ha => by
    obtain ⟨v1, _, rfl, h1, ha⟩ := ha.cons_inv
    obtain ⟨v2, _, rfl, h2, ha⟩ := ha.cons_inv
    obtain ⟨v3, _, rfl, h3, ha⟩ := ha.cons_inv
    obtain ⟨v4, _, rfl, h4, ha⟩ := ha.cons_inv
    obtain ⟨v5, _, rfl, h5, ha⟩ := ha.cons_inv
    obtain rfl := ha.nil_inv
    obtain rfl := h1.str_inv
    obtain rfl := h4.int_inv
    obtain rfl := h5.int_inv
    exact k v2 v3 h2 h3
def spRead (K : PySem.W.Frag) : Sp := fun vs H Q _ => ∃ (B : Hp) (rs : List PRow), vs = [.str (textOf rs)] ∧ Ex B H ∧ GoodBook rs ∧ ∀ D acc B' H', Ex B B' → Ok ⟨B, H, []⟩ B' [(D, .lst acc)] H' → DpAll K B' acc (rs.map encRow) → Q (.ref D) H'
section
variable {P : Program} {w : World} {K : PySem.W.Frag} {mg : Str → Option Value} {base : Heap}
theorem ok_read {f CP CR : Addr} {fd : FuncData} (F : Fun K "read" "read" s_read f fd) (G_Parts : MkG P w K mg base 3 CP "Parts" ["self", "told"] (spPInit K CP)) (G_Reader : MkG P w K mg base 1 CR "Reader" ["self"] (spRInit CR))
    (G_does_take : MtG P w K mg base 2 CR "does_take" ["self", "words"] (spTake K CR)) (clR : Cls K CR) (nRows : NoAttr K CR "rows") (n_enumerate : mg "enumerate" = none) (n_tuple : mg "tuple" = none) : FnOk P w K mg base CX0 5 f fd ["text"] (spRead K) := by
  refine F.ok sc_read (fun vs H Q E h => ?_) (fun cdv A outer s H vs Q E hr h => ?_)
  · obtain ⟨B, rs, rfl, _⟩ := h
    rfl
  · obtain ⟨B, rs, rfl, ex, G, k⟩ := h
    have S := Ok.start0 ex
    have tl := G.tags_len
    have tk := G.tags
    have tlen := G.text_len
    refine with_al (P := P) (w := w) (K := K) hr (fun al => ?_)
    refine ⟨_, (pss_cons (ps_asg (pe_mk0 G_Reader (hr.mono (by first | decide | omega)) rfl) (pg_name (i := 1) sc_read.nd rfl (by first | exact Or.inl rfl | exact Or.inr rfl))) (pss_cons (ps_for PassesOwn.never rfl (pi_enumV (by rfl) n_enumerate (pa_cons (pe_cut (pe_ifExp (pt_cmpR (opU al) (pv 0) pe_str (nomark _)) (pe_bmU K PySem.F.plainAttrs_str PySem.F.slot_str_split PySem.F.type_str_split (metU al) (pv 0) (pa_cons pe_str pa_nil)) (pe_lst pa_nil))) pa_nil)) (pg_tupU (n := 2) K (pgs_cons (pg_name (i := 2) sc_read.nd rfl (by first | exact Or.inl rfl | exact Or.inr rfl)) (pgs_cons (pg_name (i := 3) sc_read.nd rfl (by first | exact Or.inl rfl | exact Or.inr rfl)) pgs_nil))) (pss_one (ps_if (pt_not (pt_val (pe_mth G_does_take (hr.mono (by first | decide | omega)) (pv 1) (pa_cons (pe_bmU K PySem.F.plainAttrs_str PySem.F.slot_str_split PySem.F.type_str_split (metU al) (pv 3) (pa_cons pe_str pa_nil)) pa_nil)))) (pss_one ps_never) pss_nil))) (pss_cons (ps_setLc (i := 4) (own := [("name", 5), ("needs", 6), ("steps", 7), ("lot", 8), ("lead", 9)]) al.calm sc_read.nd rfl rfl (sw_true rfl rfl rfl (by decide +kernel)) (pi_val al (pe_fldU K (pv 1) rfl)) (blkOk_by (own := [("name", 5), ("needs", 6), ("steps", 7), ("lot", 8), ("lead", 9)]) (N := ["text", "reader", "row", "line", "found", "name", "needs", "steps", "lot", "lead"]) (sc := (defScope s_read)) (by decide +kernel)) (fun _ _ _ _ _ => (pg_lstU (n := 5) K (pgs_cons (pg_name (i := 5) sc_read.nd rfl (by first | exact Or.inl rfl | exact Or.inr rfl)) (pgs_cons (pg_name (i := 6) sc_read.nd rfl (by first | exact Or.inl rfl | exact Or.inr rfl)) (pgs_cons (pg_name (i := 7) sc_read.nd rfl (by first | exact Or.inl rfl | exact Or.inr rfl)) (pgs_cons (pg_name (i := 8) sc_read.nd rfl (by first | exact Or.inl rfl | exact Or.inr rfl)) (pgs_cons (pg_name (i := 9) sc_read.nd rfl (by first | exact Or.inl rfl | exact Or.inr rfl)) pgs_nil))))))) (fun _ _ _ _ _ => pts_nil) (fun _ _ _ _ _ => (pe_tup (pa_cons (pv 5) (pa_cons (pe_callTy (callU al) (by rfl) n_tuple b_tuple (pa_cons (pv 6) pa_nil)) (pa_cons (pe_callTy (callU al) (by rfl) n_tuple b_tuple (pa_cons (pv 7) pa_nil)) (pa_cons (pv 8) (pa_cons (pv 9) pa_nil)))))))) (pss_cons (ps_expr (pe_mk G_Parts (hr.mono (by first | decide | omega)) rfl (pa_cons (pv 4) pa_nil))) (pss_one (ps_ret (pv 4))))))), ?_⟩
    repeat tb_start
    refine mkQ S fun p dx H1 S1 => ?_
    refine ⟨B, p, dx, rfl, S1.sub (L1 := [_]), fun a H2 T2 => retQ ?_⟩
    have S2 : Ok ⟨B, H, []⟩ B [(a, .lst []), (p, .ins CR dx [("rows", .ref a)])] H2 := S1.call (L1 := [_]) (L2 := []) T2
    clear T2 S1
    repeat tb_start
    refine cutE (fun v H' => ∃ B', Ex B B' ∧ Ok ⟨B, H, []⟩ B' [(a, .lst []), (p, .ins CR dx [("rows", .ref a)])] H' ∧ Dp K B' v (.list ((bookTags rs).map fun t => .str t.line))) ?_ ?_
    · repeat tb_start
      by_cases hne : rs = []
      · subst hne
        refine ifndT rfl ?_
        repeat tb_start
        refine new_lst S2 (by decide) fun q H3 S3 => ?_
        obtain ⟨B4, e4, S4, d4⟩ := S3.toData (K := K) (ds := []) .nil
        exact ⟨B4, e4, S4, d4⟩
      · refine ifndF (by rw [text_tags]; exact text_ne (bookTags_ne hne)) ?_
        repeat tb_start
        refine v_splitS S2 rfl (by rw [sizeLine_eq]; omega) fun q H3 S3 => ?_
        rw [text_tags, split_text (bookTags_ne hne) tk] at S3
        obtain ⟨B4, e4, S4, d4⟩ := S3.toData (K := K) (dpStrs _)
        refine ⟨B4, e4, S4, ?_⟩
        rw [List.map_map] at d4
        exact d4
    rintro v H3 ⟨B3, e3, S3, hv⟩
    repeat tb_start
    refine enuD (as := bookTags rs) (enc := fun t => .str t.line) S3 (.inl hv) fun J src => ?_
    refine forDS src S3 (fun i σ B1 L1 => (∃ yy2 yy3 yy4 yy5 yy6 yy7 yy8 yy9, σ = [some (.str (textOf rs)), some (.ref p), yy2, yy3, yy4, yy5, yy6, yy7, yy8, yy9]) ∧ RdI K CR p dx a B1 L1 (((bookTags rs).take i).foldl rd1 none))
      (fun i σ B1 L1 e _ => e) ?_ ?_ ?_
    · exact ⟨⟨_, _, _, _, _, _, _, _, rfl⟩, rfl⟩
    · rintro i y xv σ B4 B5 L5 H5 hget ⟨⟨_, _, _, _, _, _, _, _, rfl⟩, RI0⟩ e4 e5 S5 ⟨T, u, rfl, hT, hu⟩
      obtain ⟨hr1, hr2⟩ := zipIdx_at hget
      have RI := RI0.up e5
      clear RI0
      obtain rfl := hu.str_inv
      have hi : i < (bookTags rs).length := (List.getElem?_eq_some_iff.mp hr1).1
      have hok := tk _ (List.mem_of_getElem? hr1)
      have hsok := rd_at (rd_book rs none).1 hr1
      have hsz := rd_size ((bookTags rs).take i) none
      have hl20 := G.tag_len _ (List.mem_of_getElem? hr1)
      rw [List.length_take] at hsz
      rw [foldl_take_succ hr1]
      generalize ((bookTags rs).take i).foldl rd1 none = st at RI hsok hsz ⊢
      obtain ⟨t, ti⟩ := y
      dsimp only at *
      refine r_gtupB S5 hT rfl ?_
      repeat tb_start
      have hpL : (p, HO.ins CR dx [("rows", V.ref a)]) ∈ L5 := by
        cases st with
        | none => cases RI; exact .tail _ (.head _)
        | some z =>
          obtain ⟨qs, r⟩ := z
          obtain ⟨c, n, s, acc, xs, ys, rfl, _⟩ := RI
          exact .tail _ (.tail _ (.tail _ (.tail _ (.head _))))
      refine mthQ (S5.mem hpL) rfl ?_
      repeat tb_start
      refine v_splitS S5 rfl (by rw [sizeLine_eq]; omega) fun b H6 S6 => ?_
      rw [split_line hok] at S6
      repeat tb_start
      cases t with
      | part z pi pj =>
        obtain ⟨k1, k2, k3⟩ := hok
        obtain ⟨B7, acc, e7, S7, dacc, lacc⟩ : ∃ (B7 : Hp) (acc : List V), Ex B5 B7 ∧ Ok ⟨B, H, []⟩ B7 [(a, .lst acc), (b, .lst ((["part", z, numS pi, numS pj] : List Str).map V.str)), (p, .ins CR dx [("rows", .ref a)])] H6 ∧ DpAll K B7 acc ((rdRows st).map encL) ∧ acc.length ≤ 1000 := by
          cases st with
          | none =>
            cases RI
            exact ⟨B5, [], Ex.refl _, S6.pick [1, 0, 2] (by decide), .nil, by simp⟩
          | some w =>
            obtain ⟨qs, r⟩ := w
            obtain ⟨c, n, s, acc, xs, ys, rfl, d1, d2, d3⟩ := RI
            have S7 : Ok ⟨B, H, []⟩ B5 [(n, .lst xs), (s, .lst ys), (c, .lst [.str r.name, .ref n, .ref s, .int r.lot, .int r.lead]), (a, .lst (acc ++ [.ref c])), (b, .lst ((["part", z, numS pi, numS pj] : List Str).map V.str)), (p, .ins CR dx [("rows", .ref a)])] H6 := S6.pick [1, 2, 3, 4, 0, 5] (by decide)
            obtain ⟨B8, e8, S8, f1⟩ := S7.toData d2
            obtain ⟨B9, e9, S9, f2⟩ := S8.toData (d3.up e8)
            obtain ⟨B10, e10, S10, f3⟩ := S9.toData (ds := [.str r.name, .list (r.needs.map encNeed), .list (r.steps.map encStep), .int r.lot, .int r.lead]) (.cons (.str _) (.cons (f1.up e9) (.cons f2 (.cons (.int _) (.cons (.int _) .nil)))))
            refine ⟨B10, _, e8.trans (e9.trans e10), S10, ?_, ?_⟩
            · rw [show rdRows (some (qs, r)) = qs ++ [r] from rfl, List.map_append]
              exact (d1.up (e8.trans (e9.trans e10))).append (.cons f3 .nil)
            · have := d1.length
              have h2 : qs.length + r.needs.length + r.steps.length + 1 ≤ 0 + min i (bookTags rs).length := hsz
              rw [List.length_map] at this
              rw [List.length_append]
              simp
              omega
        refine .inl ⟨B7, p, dx, a, b, acc, z, pi, pj, rfl, S7.sub (L1 := [_]), S7.mem (.tail _ (.tail _ (.head _))), S7.sqMem (.tail _ (.head _)), k1, k2, k3, lacc, fun c n s H8 T8 => ?_⟩
        have S8 := (S7.call (L1 := [_]) (L2 := [_, _]) T8).pick [2, 1, 0, 3, 5] (by decide)
        repeat tb_start
        refine NxE.mk' S8 (by nest_room) ?_
        refine ⟨⟨_, _, _, _, _, _, _, _, rfl⟩, ?_⟩
        cases st with
        | none => exact ⟨c, n, s, acc, [], [], rfl, dacc, .nil, .nil⟩
        | some w => exact ⟨c, n, s, acc, [], [], rfl, dacc, .nil, .nil⟩
      | need z pi =>
        obtain ⟨k1, k2⟩ := hok
        obtain ⟨qs, r, rfl, hrs⟩ := hsok
        obtain ⟨c, n, s, acc, xs, ys, rfl, d1, d2, d3⟩ := RI
        have hy : ys = [] := by
          rw [hrs] at d3
          exact d3.nil_inv
        subst hy
        have S7 : Ok ⟨B, H, []⟩ B5 (rdL CR p dx a c n s acc r.name r.lot r.lead xs [] ++ [(b, .lst ((["need", z, numS pi] : List Str).map V.str))]) H6 := S6.pick [1, 2, 3, 4, 5, 0] (by decide)
        have h2 : qs.length + r.needs.length + r.steps.length + 1 ≤ 0 + min i (bookTags rs).length := hsz
        have h3 := d2.length
        rw [List.length_map] at h3
        refine .inr (.inl ⟨B5, p, dx, a, c, n, s, b, acc, xs, r.name, z, r.lot, r.lead, pi, rfl, S7.sub, S7.sqMem (.tail _ (.tail _ (.tail _ (.tail _ (.tail _ (.head _)))))), k1, k2, by omega, fun t B8 H8 e8 ht T8 => ?_⟩)
        have S8 := (S7.call T8).pick [0, 1, 2, 3, 4] (by decide)
        repeat tb_start
        refine NxE.mk' S8 (by nest_room) ?_
        refine ⟨⟨_, _, _, _, _, _, _, _, rfl⟩, c, n, s, acc, xs ++ [t], [], rfl, d1.up e8, ?_, d3.up e8⟩
        show DpAll K B8 (xs ++ [t]) ((r.needs ++ [(z, pi)]).map encNeed)
        rw [List.map_append]
        exact (d2.up e8).append (.cons ht .nil)
      | step pi pj =>
        obtain ⟨k1, k2⟩ := hok
        obtain ⟨qs, r, rfl⟩ := hsok
        obtain ⟨c, n, s, acc, xs, ys, rfl, d1, d2, d3⟩ := RI
        have S7 : Ok ⟨B, H, []⟩ B5 (rdL CR p dx a c n s acc r.name r.lot r.lead xs ys ++ [(b, .lst ((["step", numS pi, numS pj] : List Str).map V.str))]) H6 := S6.pick [1, 2, 3, 4, 5, 0] (by decide)
        have h2 : qs.length + r.needs.length + r.steps.length + 1 ≤ 0 + min i (bookTags rs).length := hsz
        have h3 := d3.length
        rw [List.length_map] at h3
        refine .inr (.inr ⟨B5, p, dx, a, c, n, s, b, acc, xs, ys, r.name, r.lot, r.lead, pi, pj, rfl, S7.sub, S7.sqMem (.tail _ (.tail _ (.tail _ (.tail _ (.tail _ (.head _)))))), k1, k2, by omega, fun t B8 H8 e8 ht T8 => ?_⟩)
        have S8 := (S7.call T8).pick [0, 1, 2, 3, 4] (by decide)
        repeat tb_start
        refine NxE.mk' S8 (by nest_room) ?_
        refine ⟨⟨_, _, _, _, _, _, _, _, rfl⟩, c, n, s, acc, xs, ys ++ [t], rfl, d1.up e8, d2.up e8, ?_⟩
        show DpAll K B8 (ys ++ [t]) ((r.steps ++ [(pi, pj)]).map encStep)
        rw [List.map_append]
        exact (d3.up e8).append (.cons ht .nil)
    · rintro σ B4 L4 H4 ⟨⟨_, _, _, _, _, _, _, _, rfl⟩, RI⟩ e4 S4
      rw [List.length_zipIdx, List.take_length] at RI
      obtain ⟨B5, e5, S5, d5⟩ := RI.end S4
      rw [(rd_book rs none).2] at d5
      clear S4 RI
      rw [show rdRows none ++ rs = rs from rfl] at d5
      repeat tb_start
      have glen := G.len
      refine lcPureL S5 d5 (fun _ => true) encRow (by omega) ?_ ?_
      · intro r v B6 D acc H6 C Cs hr0 e6 S6 hv6 kC kS
        refine r_glstRow S6 hv6 fun v2 v3 h2 h3 => ?_
        repeat tb_start
        refine ⟨rfl, ?_⟩
        repeat tb_start
        refine v_tupD S6 h2 fun p2 B7 H7 e7 S7 h7 => ?_
        repeat tb_start
        refine v_tupD S7 (h3.up e7) fun p3 B8 H8 e8 S8 h8 => ?_
        repeat tb_start
        refine new_tupD S8 (.cons (.str _) (.cons (h7.up e8) (.cons h8 (.cons (.int _) (.cons (.int _) .nil))))) (by simp) fun p4 B9 H9 e9 S9 h9 => ?_
        exact kC _ _ _ rfl (by nest_room) S9 h9
      · intro D acc B6 H6 e6 S6 hacc
        rw [filter_tt] at hacc
        repeat tb_start
        refine mkQ S6 fun x dx2 H7 S7 => ?_
        have S8 : Ok ⟨B, H, []⟩ B6 [(D, .lst acc), (x, .ins CP dx2 [])] H7 := S7.pick [1, 0] (by decide)
        have e8 := S8.exF
        refine ⟨_, x, dx2, .ref D, rs, rfl, S8.freeze.sub (L1 := [_]), .inl (.lst (SqL.of upd_same) (hacc.up e8)), G, fun a2 l2 rkv lkv B9 H9 e9 RK LK T9 => retQ ?_⟩
        have S9 := ((S8.pick [1, 0] (by decide)).call (L1 := [(x, .ins CP dx2 [])]) (L2 := [(D, .lst acc)]) (Ok.rebase e8 T9)).pick [3] (by decide)
        repeat tb_start
        exact k D acc B6 H9 (by nest_room) S9 hacc
end
end LW

namespace LW
open PySem PySem.Spec PyProof.Rows L2 WK PM
abbrev s__law_alike : Stmt := topS 30
theorem sc__law_alike : FnScope ["_law_found", "_law_due", "_law_k"] ["_law_found", "_law_due"] (defScope s__law_alike) := ⟨rfl, rfl, rfl, by decide +kernel, rfl, by decide +kernel, by decide +kernel⟩
def spAl (K : PySem.W.Frag) : Nat → Sp
  | 0 => fun _ _ _ _ => False
  | n + 1 => fun vs H Q _ => ∃ (B : Hp) (x y : V) (d : PyData), vs = [x, y] ∧ Ex B H ∧ Dp K B x d ∧ Dp K B y d ∧ AlOk n d ∧ ∀ B' H', Ok ⟨B, H, []⟩ B' [] H' → Q (.bl true) H'
section
variable {P : Program} {w : World} {K : PySem.W.Frag} {mg : Str → Option Value} {base : Heap}
theorem ok__law_alike0 {f : Addr} {fd : FuncData} : FnOk P w K mg base CX0 0 f fd ["_law_found", "_law_due"] (spAl K 0) := by
  exact ⟨fun vs H Q E h => False.elim h, fun _ _ _ _ _ _ _ _ _ _ _ _ _ h => False.elim h⟩
theorem ok__law_alikeS {f : Addr} {fd : FuncData} {n : Nat} (F : Fun K "_law_alike" "_law_alike" s__law_alike f fd) (G__law_alike : FnG P w K mg base n "_law_alike" ["_law_found", "_law_due"] (spAl K n))
    (n_isinstance : mg "isinstance" = none) (n_tuple : mg "tuple" = none) (n_list : mg "list" = none) (n_str : mg "str" = none) (n_int : mg "int" = none) (n_bool : mg "bool" = none) (n_len : mg "len" = none) (n_range : mg "range" = none) : FnOk P w K mg base CX0 (n + 1) f fd ["_law_found", "_law_due"] (spAl K (n + 1)) := by
  refine F.ok sc__law_alike (fun vs H Q E h => ?_) (fun cdv A outer s H vs Q E hr h => ?_)
  · obtain ⟨B, x, y, d, rfl, _⟩ := h
    rfl
  · obtain ⟨B, x, y, d, rfl, ex, hx, hy, hd, k⟩ := h
    have S := Ok.start0 ex
    refine with_al (P := P) (w := w) (K := K) hr (fun al => ?_)
    refine ⟨_, (pss_cons (ps_if (pt_val (pe_callB (callU al) (by rfl) n_isinstance b_isinstance (pa_cons (pv 1) (pa_cons (pe_tup (pa_cons (pe_bt n_tuple b_tuple (by rfl)) (pa_cons (pe_bt n_list b_list (by rfl)) pa_nil))) pa_nil)))) (pss_cons (ps_if (PW.pt (pw_or (pt_not (pt_val (pe_callB (callU al) (by rfl) n_isinstance b_isinstance (pa_cons (pv 0) (pa_cons (pe_tup (pa_cons (pe_bt n_tuple b_tuple (by rfl)) (pa_cons (pe_bt n_list b_list (by rfl)) pa_nil))) pa_nil))))) (pw_or1 (pt_cmpR (opU al) (pe_callB (callU al) (by rfl) n_isinstance b_isinstance (pa_cons (pv 0) (pa_cons (pe_bt n_list b_list (by rfl)) pa_nil))) (pe_callB (callU al) (by rfl) n_isinstance b_isinstance (pa_cons (pv 1) (pa_cons (pe_bt n_list b_list (by rfl)) pa_nil))) (nomark _))))) (pss_one (ps_ret pe_bl)) pss_nil) (pss_cons (ps_if (pt_cmpR (opU al) (pe_callB (callU al) (by rfl) n_len b_len (pa_cons (pv 0) pa_nil)) (pe_callB (callU al) (by rfl) n_len b_len (pa_cons (pv 1) pa_nil)) (nomark _)) (pss_one (ps_ret pe_bl)) pss_nil) (pss_one (ps_ret (pe_cmpR (opU al) (pe_lc (own := [("_law_k", 2)]) al.calm sc__law_alike.nd (pi_range1 (by rfl) n_range (pa_cons (pe_callB (callU al) (by rfl) n_len b_len (pa_cons (pv 1) pa_nil)) pa_nil)) (blkOk_by (own := [("_law_k", 2)]) (N := ["_law_found", "_law_due", "_law_k"]) (sc := (defScope s__law_alike)) (by decide +kernel)) (fun _ _ _ _ _ => (pg_name (i := 2) sc__law_alike.nd rfl (by first | exact Or.inl rfl | exact Or.inr rfl))) (fun _ _ _ _ _ => pts_one (pt_not (pt_val (pe_fn G__law_alike (hr.mono (by first | decide | omega)) rfl (pa_cons (pe_ix (ixU al) (pv 0) (pv 2) (fun _ _ => rfl)) (pa_cons (pe_ix (ixU al) (pv 1) (pv 2) (fun _ _ => rfl)) pa_nil)))))) (fun _ _ _ _ _ => (pv 2))) (pe_lst pa_nil) (nomark _)))))) pss_nil) (pss_cons (ps_if (PW.pt (pw_or (pt_cmpR op_isN (pv 1) pe_non (nomark _)) (pw_or1 (pt_val (pe_callB (callU al) (by rfl) n_isinstance b_isinstance (pa_cons (pv 1) (pa_cons (pe_bt n_str b_str (by rfl)) pa_nil))))))) (pss_one (ps_ret (pe_and (pe_cmpR (opU al) (pv 0) (pv 1) (nomark _)) (pe_one (pe_cmpR (opU al) (pe_callB (callU al) (by rfl) n_isinstance b_isinstance (pa_cons (pv 0) (pa_cons (pe_bt n_str b_str (by rfl)) pa_nil))) (pe_callB (callU al) (by rfl) n_isinstance b_isinstance (pa_cons (pv 1) (pa_cons (pe_bt n_str b_str (by rfl)) pa_nil))) (nomark _)))))) pss_nil) (pss_one (ps_ret (pe_and (pe_callB (callU al) (by rfl) n_isinstance b_isinstance (pa_cons (pv 0) (pa_cons (pe_bt n_int b_int (by rfl)) pa_nil))) (pe_and (pe_cmpR (opU al) (pe_callB (callU al) (by rfl) n_isinstance b_isinstance (pa_cons (pv 0) (pa_cons (pe_bt n_bool b_bool (by rfl)) pa_nil))) (pe_callB (callU al) (by rfl) n_isinstance b_isinstance (pa_cons (pv 1) (pa_cons (pe_bt n_bool b_bool (by rfl)) pa_nil))) (nomark _)) (pe_one (pe_cmpR (opU al) (pv 0) (pv 1) (nomark _))))))))), ?_⟩
    repeat tb_start
    refine new_tup S (by show 2 ≤ sizeLine; decide) fun t1 B1 H1 e1 ht1 S1 => ?_
    repeat tb_start
    refine v_isiTL S1 (by nest_fact) ht1 ?_
    repeat tb_start
    by_cases hsq : ∃ ds, d = .list ds ∨ d = .tuple ds
    · obtain ⟨ds, hds⟩ := hsq
      have h1 := isSeqT hds
      refine ifT h1 ?_
      have hxl : Dpl K B x ds := hds.elim (fun e => .inl (e ▸ hx)) fun e => .inr (e ▸ hx)
      have hyl : Dpl K B y ds := hds.elim (fun e => .inl (e ▸ hy)) fun e => .inr (e ▸ hy)
      obtain ⟨n', rfl, hlen, hall⟩ : ∃ n', n = n' + 1 ∧ ds.length ≤ 100000 ∧ ∀ d ∈ ds, AlOk n' d := by
        rcases hds with rfl | rfl
        · cases n with
          | zero => cases hd
          | succ n => exact ⟨n, rfl, hd.1, hd.2⟩
        · cases n with
          | zero => cases hd
          | succ n => exact ⟨n, rfl, hd.1, hd.2⟩
      repeat tb_start
      refine new_tup S1 (by show 2 ≤ sizeLine; decide) fun t2 B2 H2 e2 ht2 S2 => ?_
      repeat tb_start
      refine v_isiTL S2 (by nest_fact) ht2 ?_
      rw [h1]
      repeat tb_start
      refine v_isiD S2 (d := d) (by nest_fact) (by decide) ?_
      repeat tb_start
      refine v_isiD S2 (d := d) (by nest_fact) (by decide) ?_
      repeat tb_start
      refine v_neB ?_
      repeat tb_start
      refine ifndT rfl ?_
      repeat tb_start
      refine rngQ (by omega) (by omega) ?_
      rw [Int.toNat_natCast]
      refine lcPure K src_range S2 (fun _ _ _ _ => True.intro) (fun _ => false) (fun _ => .none) (by rw [List.length_range]; exact hlen) ?_ ?_
      · intro i xv B3 D3 acc3 H3 C Cs hi e3 S3 hxv kC kS
        subst hxv
        have hi' : i < ds.length := List.mem_range.mp hi
        obtain ⟨di, hdi⟩ : ∃ di, ds[i]? = some di := ⟨_, List.getElem?_eq_getElem hi'⟩
        repeat tb_start
        refine ⟨rfl, ?_⟩
        repeat tb_start
        refine v_ixDW S3 (hxl.up (by nest_room)) (j := i) (by omega) hdi fun u hu => ?_
        repeat tb_start
        refine v_ixDW S3 (hyl.up (by nest_room)) (j := i) (by omega) hdi fun u2 hu2 => ?_
        refine ⟨B3, u, u2, di, rfl, S3.ex, hu, hu2, hall di (List.mem_of_getElem? hdi), fun B4 H4 T4 => ?_⟩
        repeat tb_start
        exact kS _ _ rfl T4.ex0 (S3.callP T4)
      · intro D3 acc3 B3 H3 e3 S3 hacc3
        have hf : (List.range ds.length).filter (fun _ => false) = [] := List.filter_eq_nil_iff.mpr fun _ _ => by decide
        rw [hf] at hacc3
        obtain rfl := hacc3.nil_inv
        repeat tb_start
        refine new_lst S3 (by decide) fun l4 H4 S4 => ?_
        refine v_eqLen (S4.sqMem (.tail _ (.head _))) (S4.sqMem (.head _)) (.inr ⟨rfl, rfl⟩) ?_
        exact k _ _ S4.drop.drop
    · refine ifF (isSeqF hx hsq) ?_
      repeat tb_start
      cases hx with
      | lst h1 h2 => exact absurd ⟨_, .inl rfl⟩ hsq
      | tup h1 h2 => exact absurd ⟨_, .inr rfl⟩ hsq
      | non =>
        obtain rfl := hy.non_inv
        refine ⟨rfl, ?_⟩
        repeat tb_start
        refine ifdT rfl ?_
        repeat tb_start
        refine v_eqNon ?_
        repeat tb_start
        refine v_isiD (T := "str") S1 (d := .none) .non (by decide) ?_
        repeat tb_start
        refine v_isiD (T := "str") S1 (d := .none) .non (by decide) ?_
        repeat tb_start
        refine v_eqB ?_
        rw [decide_eq_true rfl]
        exact k _ _ S1
      | str z =>
        obtain rfl := hy.str_inv
        refine ⟨rfl, ?_⟩
        repeat tb_start
        refine ifdF (fun z => nomatch z) ?_
        repeat tb_start
        refine v_isiD (T := "str") S1 (d := .str z) (.str z) (by decide) ?_
        repeat tb_start
        refine ifT isT_ss ?_
        repeat tb_start
        refine ifdT rfl ?_
        repeat tb_start
        refine v_isiD (T := "str") S1 (d := .str z) (.str z) (by decide) ?_
        repeat tb_start
        refine v_isiD (T := "str") S1 (d := .str z) (.str z) (by decide) ?_
        repeat tb_start
        refine v_eqB ?_
        rw [decide_eq_true rfl]
        exact k _ _ S1
      | int i =>
        obtain rfl := hy.int_inv
        refine ⟨rfl, ?_⟩
        repeat tb_start
        refine ifdF (fun z => nomatch z) ?_
        repeat tb_start
        refine v_isiD (T := "str") S1 (d := .int i) (.int i) (by decide) ?_
        repeat tb_start
        refine ifF isT_is ?_
        repeat tb_start
        refine v_isiD (T := "int") S1 (d := .int i) (.int i) (by decide) ?_
        repeat tb_start
        refine ifT isT_ii ?_
        repeat tb_start
        refine v_isiD (T := "bool") S1 (d := .int i) (.int i) (by decide) ?_
        repeat tb_start
        refine v_isiD (T := "bool") S1 (d := .int i) (.int i) (by decide) ?_
        repeat tb_start
        refine v_eqB ?_
        repeat tb_start
        refine ifdT rfl ?_
        repeat tb_start
        rw [decide_eq_true rfl]
        exact k _ _ S1
      | bl i =>
        obtain rfl := hy.bl_inv
        refine ⟨rfl, ?_⟩
        repeat tb_start
        refine ifdF (fun z => nomatch z) ?_
        repeat tb_start
        refine v_isiD (T := "str") S1 (d := .bool i) (.bl i) (by decide) ?_
        repeat tb_start
        refine ifF isT_bs ?_
        repeat tb_start
        refine v_isiD (T := "int") S1 (d := .bool i) (.bl i) (by decide) ?_
        repeat tb_start
        refine ifT isT_bi ?_
        repeat tb_start
        refine v_isiD (T := "bool") S1 (d := .bool i) (.bl i) (by decide) ?_
        repeat tb_start
        refine v_isiD (T := "bool") S1 (d := .bool i) (.bl i) (by decide) ?_
        repeat tb_start
        refine v_eqB ?_
        repeat tb_start
        refine ifdT rfl ?_
        repeat tb_start
        refine v_eqB ?_
        rw [decide_eq_true rfl]
        exact k _ _ S1
end
end LW

namespace LW
open PySem PySem.Spec PyProof.Rows L2 WK PM
abbrev s__law_text : Stmt := topS 33
theorem sc__law_text : FnScope ["_law_rows", "_law_found", "_law_name", "_law_needs", "_law_steps", "_law_lot", "_law_lead", "_law_part", "_law_many", "_law_machine", "_law_minutes"] ["_law_rows"] (defScope s__law_text) := ⟨rfl, rfl, rfl, by decide +kernel, rfl, by decide +kernel, by decide +kernel⟩
def spLText (K : PySem.W.Frag) : Sp := fun vs H Q _ => ∃ (B : Hp) (v : V) (rs : List PRow), vs = [v] ∧ Ex B H ∧ Dpl K B v (rs.map encRow) ∧ GoodBook rs ∧ ∀ B' H', Ok ⟨B, H, []⟩ B' [] H' → Q (.str (textOf rs)) H'
section
variable {P : Program} {w : World} {K : PySem.W.Frag} {mg : Str → Option Value} {base : Heap}
theorem ok__law_text {f : Addr} {fd : FuncData} (F : Fun K "_law_text" "_law_text" s__law_text f fd) (n_str : mg "str" = none) : FnOk P w K mg base CX0 1 f fd ["_law_rows"] (spLText K) := by
  refine F.ok sc__law_text (fun vs H Q E h => ?_) (fun cdv A outer s H vs Q E hr h => ?_)
  · obtain ⟨B, v, rs, rfl, _⟩ := h
    rfl
  · obtain ⟨B, v, rs, rfl, ex, hv, G, k⟩ := h
    have S := Ok.start0 ex
    have glen := G.len
    have c5 : ("part " : Str).length = 5 := rfl
    have c6 : ("need " : Str).length = 5 := rfl
    have c7 : ("step " : Str).length = 5 := rfl
    have c1 : (" " : Str).length = 1 := rfl
    refine with_al (P := P) (w := w) (K := K) hr (fun al => ?_)
    refine ⟨_, (pss_cons (ps_asg (pe_lst pa_nil) (pg_name (i := 1) sc__law_text.nd rfl (by first | exact Or.inl rfl | exact Or.inr rfl))) (pss_cons (ps_for PassesOwn.never rfl (pi_val al (pv 0)) (pg_tupU (n := 5) K (pgs_cons (pg_name (i := 2) sc__law_text.nd rfl (by first | exact Or.inl rfl | exact Or.inr rfl)) (pgs_cons (pg_name (i := 3) sc__law_text.nd rfl (by first | exact Or.inl rfl | exact Or.inr rfl)) (pgs_cons (pg_name (i := 4) sc__law_text.nd rfl (by first | exact Or.inl rfl | exact Or.inr rfl)) (pgs_cons (pg_name (i := 5) sc__law_text.nd rfl (by first | exact Or.inl rfl | exact Or.inr rfl)) (pgs_cons (pg_name (i := 6) sc__law_text.nd rfl (by first | exact Or.inl rfl | exact Or.inr rfl)) pgs_nil)))))) (pss_cons (ps_expr (pe_bmU K PySem.F.plainAttrs_list PySem.F.slot_list_append PySem.F.type_list_append (metU al) (pv 1) (pa_cons (pe_op (opU al) (pe_op (opU al) (pe_op (opU al) (pe_op (opU al) (pe_op (opU al) pe_str (pv 2)) pe_str) (pe_callTy (callU al) (by rfl) n_str b_str (pa_cons (pv 5) pa_nil))) pe_str) (pe_callTy (callU al) (by rfl) n_str b_str (pa_cons (pv 6) pa_nil))) pa_nil))) (pss_cons (ps_asg (pe_op (opU al) (pv 1) (pe_lc (own := [("_law_part", 7), ("_law_many", 8)]) al.calm sc__law_text.nd (pi_val al (pv 3)) (blkOk_by (own := [("_law_part", 7), ("_law_many", 8)]) (N := ["_law_rows", "_law_found", "_law_name", "_law_needs", "_law_steps", "_law_lot", "_law_lead", "_law_part", "_law_many", "_law_machine", "_law_minutes"]) (sc := (defScope s__law_text)) (by decide +kernel)) (fun _ _ _ _ _ => (pg_tupU (n := 2) K (pgs_cons (pg_name (i := 7) sc__law_text.nd rfl (by first | exact Or.inl rfl | exact Or.inr rfl)) (pgs_cons (pg_name (i := 8) sc__law_text.nd rfl (by first | exact Or.inl rfl | exact Or.inr rfl)) pgs_nil)))) (fun _ _ _ _ _ => pts_nil) (fun _ _ _ _ _ => (pe_op (opU al) (pe_op (opU al) (pe_op (opU al) pe_str (pv 7)) pe_str) (pe_callTy (callU al) (by rfl) n_str b_str (pa_cons (pv 8) pa_nil)))))) (pg_name (i := 1) sc__law_text.nd rfl (by first | exact Or.inl rfl | exact Or.inr rfl))) (pss_one (ps_asg (pe_op (opU al) (pv 1) (pe_lc (own := [("_law_machine", 9), ("_law_minutes", 10)]) al.calm sc__law_text.nd (pi_val al (pv 4)) (blkOk_by (own := [("_law_machine", 9), ("_law_minutes", 10)]) (N := ["_law_rows", "_law_found", "_law_name", "_law_needs", "_law_steps", "_law_lot", "_law_lead", "_law_part", "_law_many", "_law_machine", "_law_minutes"]) (sc := (defScope s__law_text)) (by decide +kernel)) (fun _ _ _ _ _ => (pg_tupU (n := 2) K (pgs_cons (pg_name (i := 9) sc__law_text.nd rfl (by first | exact Or.inl rfl | exact Or.inr rfl)) (pgs_cons (pg_name (i := 10) sc__law_text.nd rfl (by first | exact Or.inl rfl | exact Or.inr rfl)) pgs_nil)))) (fun _ _ _ _ _ => pts_nil) (fun _ _ _ _ _ => (pe_op (opU al) (pe_op (opU al) (pe_op (opU al) pe_str (pe_callTy (callU al) (by rfl) n_str b_str (pa_cons (pv 9) pa_nil))) pe_str) (pe_callTy (callU al) (by rfl) n_str b_str (pa_cons (pv 10) pa_nil)))))) (pg_name (i := 1) sc__law_text.nd rfl (by first | exact Or.inl rfl | exact Or.inr rfl))))))) (pss_one (ps_ret (pe_bmU K PySem.F.plainAttrs_str PySem.F.slot_str_join PySem.F.type_str_join (metU al) pe_str (pa_cons (pv 1) pa_nil)))))), ?_⟩
    repeat tb_start
    refine new_lst S (by decide) fun D H3 S3 => ?_
    repeat tb_start
    refine forDW S3 hv (fun i σ B1 L1 => ∃ D, (∃ yy2 yy3 yy4 yy5 yy6 yy7 yy8 yy9 yy10, σ = [some (v), some (.ref D), yy2, yy3, yy4, yy5, yy6, yy7, yy8, yy9, yy10]) ∧ L1 = [(D, .lst (((rs.take i).flatMap rowLines).map V.str))]) ?_ ?_ ?_
    · exact ⟨_, ⟨_, _, _, _, _, _, _, _, _, rfl⟩, rfl⟩
    · rintro i r xv σ B3 B4 L4 H4 hr0 ⟨D, ⟨_, _, _, _, _, _, _, _, _, rfl⟩, rfl⟩ e3 e4 S4 hxv
      have R := G.row i r hr0
      obtain ⟨lo1, lo2⟩ := R.lot
      obtain ⟨le1, le2⟩ := R.lead
      have hfl : ((rs.take i).flatMap rowLines).length ≤ 216 := by
        have := flat_len (rs := rs.take i) fun x hx => G.lines18 x (List.mem_of_mem_take hx)
        rw [List.length_take] at this
        omega
      have nlen := name_len R.nm
      have l1 := numS_le (i := r.lot) (by omega) (by omega)
      have l2 := numS_le (i := r.lead) (by omega) (by omega)
      have hnl := G.lines18 r (List.mem_of_getElem? hr0)
      unfold rowLines at hnl
      rw [List.length_cons, List.length_append, List.length_map, List.length_map] at hnl
      refine r_gtupRow S4 hxv fun v2 v3 h2 h3 => ?_
      repeat tb_start
      refine v_addS (by simp only [len_add, sizeLine_eq]; omega) ?_
      repeat tb_start
      refine v_addS (by simp only [len_add, sizeLine_eq]; omega) ?_
      repeat tb_start
      refine v_strI (log2_small (by omega) (by omega)) ?_
      repeat tb_start
      refine v_addS (by simp only [len_add, sizeLine_eq]; omega) ?_
      repeat tb_start
      refine v_addS (by simp only [len_add, sizeLine_eq]; omega) ?_
      repeat tb_start
      refine v_strI (log2_small (by omega) (by omega)) ?_
      repeat tb_start
      refine v_addS (by simp only [len_add, sizeLine_eq]; omega) ?_
      rw [part_plus]
      refine v_appendN 0 S4 rfl (by rw [List.length_map, sizeLine_eq]; omega) fun H7 S7 => ?_
      repeat tb_start
      refine lcPureT S7 h2 (fun _ => true) (fun x => .str (needLine x)) (by omega) ?_ ?_
      · rintro x xv2 B8 D8 acc H8 C Cs hx e8 S8 hxv2 kC kS
        obtain ⟨m1, m2⟩ := R.many x hx
        obtain ⟨q, hq, eq⟩ := List.mem_map.mp (R.known x hx)
        obtain ⟨j, hj⟩ := List.getElem?_of_mem (List.mem_of_mem_take hq)
        have hnx := name_len (G.row j q hj).nm
        rw [eq] at hnx
        have l3 := numS_le (i := x.2) (by omega) (by omega)
        refine r_gtupSI S8 hxv2 ?_
        repeat tb_start
        refine ⟨rfl, ?_⟩
        repeat tb_start
        refine v_addS (by simp only [len_add, sizeLine_eq]; omega) ?_
        repeat tb_start
        refine v_addS (by simp only [len_add, sizeLine_eq]; omega) ?_
        repeat tb_start
        refine v_strI (log2_small (by omega) (by omega)) ?_
        repeat tb_start
        refine v_addS (by simp only [len_add, sizeLine_eq]; omega) ?_
        rw [need_plus]
        exact kC _ _ _ rfl (Ex.refl _) S8 (.str _)
      intro D8 acc8 B8 H8 e8 S8 hacc8
      rw [filter_tt, show r.needs.map (fun x => PyData.str (needLine x)) = (r.needs.map needLine).map PyData.str by rw [List.map_map]; rfl] at hacc8
      obtain rfl := hacc8.strs
      repeat tb_start
      refine v_cat S8 (S8.mem (.tail _ (.head _))) (S8.mem (.head _)) (by simp only [List.length_map, List.length_append, List.length_cons, List.length_nil]; rw [sizeLine_eq]; omega) fun D9 H9 S9 => ?_
      have S10 : Ok ⟨B, H, []⟩ B8 [(D9, .lst (((((rs.take i).flatMap rowLines).map V.str) ++ [.str (partLine r)]) ++ (r.needs.map needLine).map V.str))] H9 := S9.pick [0] (by decide)
      have h3' := h3.up e8
      clear S9 S8
      repeat tb_start
      refine lcPureT S10 h3' (fun _ => true) (fun x => .str (stepLine x)) (by omega) ?_ ?_
      · rintro x xv2 B11 D11 acc H11 C Cs hx e11 S11 hxv2 kC kS
        obtain ⟨⟨m1, m2⟩, m3, m4⟩ := R.steps x hx
        have l3 := numS_le (i := x.1) (by omega) (by omega)
        have l4 := numS_le (i := x.2) (by omega) (by omega)
        refine r_gtupII S11 hxv2 ?_
        repeat tb_start
        refine ⟨rfl, ?_⟩
        repeat tb_start
        refine v_strI (log2_small (by omega) (by omega)) ?_
        repeat tb_start
        refine v_addS (by simp only [len_add, sizeLine_eq]; omega) ?_
        repeat tb_start
        refine v_addS (by simp only [len_add, sizeLine_eq]; omega) ?_
        repeat tb_start
        refine v_strI (log2_small (by omega) (by omega)) ?_
        repeat tb_start
        refine v_addS (by simp only [len_add, sizeLine_eq]; omega) ?_
        rw [step_plus]
        exact kC _ _ _ rfl (Ex.refl _) S11 (.str _)
      intro D11 acc11 B11 H11 e11 S11 hacc11
      rw [filter_tt, show r.steps.map (fun x => PyData.str (stepLine x)) = (r.steps.map stepLine).map PyData.str by rw [List.map_map]; rfl] at hacc11
      obtain rfl := hacc11.strs
      repeat tb_start
      refine v_cat S11 (S11.mem (.tail _ (.head _))) (S11.mem (.head _)) (by simp only [List.length_map, List.length_append, List.length_cons, List.length_nil]; rw [sizeLine_eq]; omega) fun D12 H12 S12 => ?_
      have S13 := S12.pick [0] (by decide)
      repeat tb_start
      refine NxE.mk' S13 (by nest_room) ?_
      refine ⟨D12, ⟨_, _, _, _, _, _, _, _, _, rfl⟩, ?_⟩
      rw [List.take_add_one, hr0, List.flatMap_append, List.map_append]
      simp only [Option.toList_some, List.flatMap_cons, List.flatMap_nil, List.append_nil, rowLines, List.map_cons, List.map_append, List.append_assoc, List.cons_append, List.nil_append]
      rfl
    · rintro σ B3 L4 H4 ⟨D, ⟨_, _, _, _, _, _, _, _, _, rfl⟩, rfl⟩ e3 S4
      rw [List.take_length] at S4
      repeat tb_start
      refine v_joinL (ys := rs.flatMap rowLines) (S4.sqMem (.head _)) (text_sum G) ?_
      exact k _ _ S4.drop
end
end LW

namespace LW
open PySem PySem.Spec PyProof.Rows L2 WK PM
abbrev s_law : Stmt := topS 34
theorem sc_law : FnScope ["_law_script", "_law_h", "_law_turn", "_law_rows", "_law_found"] ["_law_script"] (defScope s_law) := ⟨rfl, rfl, rfl, by decide +kernel, rfl, by decide +kernel, by decide +kernel⟩
def spLaw (K : PySem.W.Frag) : Sp := fun vs H Q _ => ∃ (a : Addr) (ns : List Int), vs = [.ref a] ∧ SqL K H a (ns.map V.int) ∧ ns.length ≤ 63 ∧ ∀ H', Q (.bl true) H'
section
variable {P : Program} {w : World} {K : PySem.W.Frag} {mg : Str → Option Value} {base : Heap}
theorem ok_law {f : Addr} {fd : FuncData} (F : Fun K "law" "law" s_law f fd) (G__law_mix : FnG P w K mg base 1 "_law_mix" ["_law_script", "_law_seed"] (spMix K)) (G__law_next : FnG P w K mg base 1 "_law_next" ["_law_h", "_law_many"] spNext)
    (G__law_parts : FnG P w K mg base 14 "_law_parts" ["_law_h", "_law_most"] (spLParts K)) (G_written : FnG P w K mg base 5 "written" ["parts"] (spWritten K)) (G_read : FnG P w K mg base 5 "read" ["text"] (spRead K))
    (G__law_text : FnG P w K mg base 1 "_law_text" ["_law_rows"] (spLText K)) (G__law_alike : FnG P w K mg base 6 "_law_alike" ["_law_found", "_law_due"] (spAl K 6))
    (n_range : mg "range" = none) (n_tuple : mg "tuple" = none) : FnOk P w K mg base CX0 15 f fd ["_law_script"] (spLaw K) := by
  refine F.ok sc_law (fun vs H Q E h => ?_) (fun cdv A outer s H vs Q E hr h => ?_)
  · obtain ⟨a, ns, rfl, _⟩ := h
    rfl
  · obtain ⟨a, ns, rfl, hq, hlen, k⟩ := h
    have S : Ok ⟨H, H, []⟩ H [] H := Ok.start0 (Ex.refl H)
    refine with_al (P := P) (w := w) (K := K) hr (fun al => ?_)
    refine ⟨_, (pss_cons (ps_asg (pe_fn G__law_mix (hr.mono (by first | decide | omega)) rfl (pa_cons (pv 0) (pa_cons pe_int pa_nil))) (pg_name (i := 1) sc_law.nd rfl (by first | exact Or.inl rfl | exact Or.inr rfl))) (pss_cons (ps_for PassesOwn.never rfl (pi_range1 (by rfl) n_range (pa_cons pe_int pa_nil)) (pg_name (i := 2) sc_law.nd rfl (by first | exact Or.inl rfl | exact Or.inr rfl)) (pss_cons (ps_asg (pe_fn G__law_parts (hr.mono (by first | decide | omega)) rfl (pa_cons (pv 1) (pa_cons pe_int pa_nil))) (pg_name (i := 3) sc_law.nd rfl (by first | exact Or.inl rfl | exact Or.inr rfl))) (pss_cons (ps_if (PW.pt (pw_or (pt_cmpR (opU al) (pe_fn G_written (hr.mono (by first | decide | omega)) rfl (pa_cons (pv 3) pa_nil)) (pe_fn G__law_text (hr.mono (by first | decide | omega)) rfl (pa_cons (pv 3) pa_nil)) (nomark _)) (pw_or1 (pt_not (pt_val (pe_fn G__law_alike (hr.mono (by first | decide | omega)) rfl (pa_cons (pe_fn G_read (hr.mono (by first | decide | omega)) rfl (pa_cons (pe_fn G__law_text (hr.mono (by first | decide | omega)) rfl (pa_cons (pv 3) pa_nil)) pa_nil)) (pa_cons (pv 3) pa_nil)))))))) (pss_one (ps_ret pe_bl)) pss_nil) (pss_cons (ps_asg (pe_fn G_read (hr.mono (by first | decide | omega)) rfl (pa_cons (pe_fn G_written (hr.mono (by first | decide | omega)) rfl (pa_cons (pe_callTy (callU al) (by rfl) n_tuple b_tuple (pa_cons (pv 3) pa_nil)) pa_nil)) pa_nil)) (pg_name (i := 4) sc_law.nd rfl (by first | exact Or.inl rfl | exact Or.inr rfl))) (pss_cons (ps_expr (pe_bmU K PySem.F.plainAttrs_list PySem.F.slot_list_append PySem.F.type_list_append (metU al) (pv 4) (pa_cons pe_int pa_nil))) (pss_one (ps_if (pt_cmpR (opU al) (pe_fn G_read (hr.mono (by first | decide | omega)) rfl (pa_cons (pe_fn G_written (hr.mono (by first | decide | omega)) rfl (pa_cons (pv 3) pa_nil)) pa_nil)) (pv 3) (nomark _)) (pss_one (ps_ret pe_bl)) pss_nil))))))) (pss_one (ps_ret (pe_and (pe_cmpR (opU al) (pe_fn G_read (hr.mono (by first | decide | omega)) rfl (pa_cons pe_str pa_nil)) (pe_lst pa_nil) (nomark _)) (pe_and (pe_cmpR (opU al) (pe_fn G_written (hr.mono (by first | decide | omega)) rfl (pa_cons (pe_lst pa_nil) pa_nil)) pe_str (nomark _)) (pe_one (pe_cmpR (opU al) (pe_fn G_read (hr.mono (by first | decide | omega)) rfl (pa_cons pe_str pa_nil)) (pe_lst (pa_cons (pe_tup (pa_cons pe_str (pa_cons (pe_tup pa_nil) (pa_cons (pe_tup pa_nil) (pa_cons pe_int (pa_cons pe_int pa_nil)))))) pa_nil)) (nomark _))))))))), ?_⟩
    repeat tb_start
    refine ⟨H, a, ns, 79, rfl, S.ex, hq, hlen, by decide, by decide, fun m p q B1 H1 _ _ T1 => ?_⟩
    have S1 := S.call (L1 := []) (L2 := []) T1
    repeat tb_start
    refine rngQ (by decide) (by decide) ?_
    refine forDS src_range S1 (fun i σ B1 L1 => (∃ yy2 yy3 yy4, σ = [some (.ref a), some (.ref p), yy2, yy3, yy4]) ∧ ∃ m cs kk, HS cs kk ∧ L1 = hL p q m cs kk) (fun _ _ _ _ _ _ => True.intro) ?_ ?_ ?_
    · exact ⟨⟨_, _, _, rfl⟩, _, _, _, ⟨hlen, by decide⟩, rfl⟩
    · rintro i i2 x σ B0 B2 L1 H2 hget ⟨⟨_, _, _, rfl⟩, m, cs, kk, hS, rfl⟩ e1 e2 S2 rfl
      repeat tb_start
      refine ⟨B2, p, q, m, cs, kk, 12, rfl, by decide, by decide, S2.sub (L1 := hL p q m cs kk) (L2 := []), hS, fun r rs m3 cs3 kk3 B3 H3 e3 M hne _ hrows hS3 T3 => ?_⟩
      have S3 : Ok ⟨H, H, []⟩ B3 (hL p q m3 cs3 kk3) H3 := S2.call (L1 := hL p q m cs kk) (L2 := []) T3
      have G := M.good
      repeat tb_start
      refine ⟨B3, r, rs, rfl, S3.ex, .inl hrows, G, fun B4 H4 T4 => ?_⟩
      have S4 := S3.callP T4
      have e4 := T4.ex0
      repeat tb_start
      refine ⟨B4, r, rs, rfl, S4.ex, .inl (by nest_fact), G, fun B5 H5 T5 => ?_⟩
      have S5 := S4.callP T5
      have e5 := T5.ex0
      repeat tb_start
      refine ifndT rfl ?_
      repeat tb_start
      refine ⟨B5, r, rs, rfl, S5.ex, .inl (by nest_fact), G, fun B6 H6 T6 => ?_⟩
      have S6 := S5.callP T6
      have e6 := T6.ex0
      repeat tb_start
      refine ⟨B6, rs, rfl, S6.ex, G, fun D7 acc7 B7 H7 e7 T7 h7 => ?_⟩
      obtain ⟨B8, e8, S8, d8⟩ := (S6.callN T7).toData h7
      repeat tb_start
      refine ⟨B8, _, r, _, rfl, S8.ex, d8, by nest_fact, G.al, fun B9 H9 T9 => ?_⟩
      have S9 := S8.callP T9
      have e9 := T9.ex0
      replace hrows : Dp K B9 r (.list (rs.map encRow)) := by nest_fact
      clear S8 S6 S5 S4 S3 d8
      repeat tb_start
      refine v_tupD S9 hrows fun t10 B10 H10 e10 S10 h10 => ?_
      repeat tb_start
      refine ⟨B10, _, rs, rfl, S10.ex, .inr h10, G, fun B11 H11 T11 => ?_⟩
      have S11 := S10.callP T11
      have e11 := T11.ex0
      repeat tb_start
      refine ⟨B11, rs, rfl, S11.ex, G, fun D12 acc12 B12 H12 e12 T12 h12 => ?_⟩
      have S12 := S11.callN T12
      have hl12 := h12.length
      have glen := G.len
      rw [List.length_map] at hl12
      repeat tb_start
      refine v_appendN 0 S12 rfl (by rw [sizeLine_eq]; omega) fun H13 S13 => ?_
      have S14 : Ok ⟨H, H, []⟩ B12 (hL p q m3 cs3 kk3) H13 := S13.pick [1, 2] (by decide)
      repeat tb_start
      refine ⟨B12, r, rs, rfl, S14.ex, .inl (by nest_fact), G, fun B15 H15 T15 => ?_⟩
      have S15 := S14.callP T15
      have e15 := T15.ex0
      repeat tb_start
      refine ⟨B15, rs, rfl, S15.ex, G, fun D16 acc16 B16 H16 e16 T16 h16 => ?_⟩
      obtain ⟨B17, e17, S17, d17⟩ := (S15.callN T16).toData h16
      repeat tb_start
      refine v_neSame S17 d17 (show Dp K B17 r (.list (rs.map encRow)) by nest_fact) G.shp (by decide) ?_
      repeat tb_start
      refine NxE.mk' S17 (by nest_room) ?_
      exact ⟨⟨_, _, _, rfl⟩, _, _, _, hS3, rfl⟩
    · rintro σ B2 L1 H2 ⟨⟨_, _, _, rfl⟩, m, cs, kk, hS, rfl⟩ e1 S2
      repeat tb_start
      refine ⟨B2, [], by rw [textOf_nil], S2.ex, GoodBook.nil, fun D3 acc3 B3 H3 e3 T3 h3 => ?_⟩
      have S3 := S2.callN T3
      obtain rfl := h3.nil_inv
      repeat tb_start
      refine new_lst S3 (by decide) fun D4 H4 S4 => ?_
      repeat tb_start
      refine v_eqLen (S4.sqMem (.tail _ (.head _))) (S4.sqMem (.head _)) (.inr ⟨rfl, rfl⟩) ?_
      repeat tb_start
      refine new_lst S4 (by decide) fun D5 H5 S5 => ?_
      obtain ⟨B6, e6, S6, d6⟩ := S5.toData (K := K) (ds := []) .nil
      repeat tb_start
      refine ⟨B6, _, [], rfl, S6.ex, .inl d6, GoodBook.nil, fun B7 H7 T7 => ?_⟩
      have S7 := S6.callP T7
      rw [textOf_nil]
      repeat tb_start
      refine ifdT rfl ?_
      repeat tb_start
      refine ⟨B7, [rowA], by rw [textOf_a], S7.ex, goodA, fun D8 acc8 B8 H8 e8 T8 h8 => ?_⟩
      obtain ⟨B9, e9, S9, d9⟩ := (S7.callN T8).toData h8
      repeat tb_start
      refine new_tupD (K := K) S9 .nil (by simp) fun t10 B10 H10 e10 S10 h10 => ?_
      repeat tb_start
      refine new_tupD (K := K) S10 .nil (by simp) fun t11 B11 H11 e11 S11 h11 => ?_
      repeat tb_start
      refine new_tupD (K := K) S11 (ds := [.str "a", .tuple [], .tuple [], .int 99, .int 30]) (.cons (.str _) (.cons (h10.up e11) (.cons h11 (.cons (.int _) (.cons (.int _) .nil))))) (by simp) fun t12 B12 H12 e12 S12 h12 => ?_
      repeat tb_start
      refine new_lst S12 (by show 1 ≤ sizeLine; decide) fun D13 H13 S13 => ?_
      obtain ⟨B14, e14, S14, d14⟩ := S13.toData (K := K) (ds := [encRow rowA]) (.cons h12 .nil)
      repeat tb_start
      refine v_eqSame S14 (show Dp K B14 _ (.list ([rowA].map encRow)) from d9.up (e10.trans (e11.trans (e12.trans e14)))) d14 goodA.shp (by decide) ?_
      exact k _
end
end LW

namespace LW
open PySem PySem.Spec PyProof.Rows L2 WK PM
theorem all_mk {l : PySem.W.OpenLaw} {w : World} {K : PySem.W.Frag} {h : Heap} {mg : Str → Option Value} {fa : Addr} (X : K.In h) (G : h.Ns mainGlobals mg) (hfa : mg "law" = some (.ref fa))
    {f__law_mix : Addr} {od__law_mix an__law_mix : Option Addr} {sl__law_mix : Array (Option Value)} {oc__law_mix kV__law_mix dc__law_mix pm__law_mix cd__law_mix ct__law_mix : Value}
    {f__law_next : Addr} {od__law_next an__law_next : Option Addr} {sl__law_next : Array (Option Value)} {oc__law_next kV__law_next dc__law_next pm__law_next cd__law_next ct__law_next : Value}
    {f_is_name : Addr} {od_is_name an_is_name : Option Addr} {sl_is_name : Array (Option Value)} {oc_is_name kV_is_name dc_is_name pm_is_name cd_is_name ct_is_name : Value}
    {f__law_led : Addr} {od__law_led an__law_led : Option Addr} {sl__law_led : Array (Option Value)} {oc__law_led kV__law_led dc__law_led pm__law_led cd__law_led ct__law_led : Value}
    {f__law_parts : Addr} {od__law_parts an__law_parts : Option Addr} {sl__law_parts : Array (Option Value)} {oc__law_parts kV__law_parts dc__law_parts pm__law_parts cd__law_parts ct__law_parts : Value}
    {f_written : Addr} {od_written an_written : Option Addr} {sl_written : Array (Option Value)} {oc_written kV_written dc_written pm_written cd_written ct_written : Value}
    {f_number_in : Addr} {od_number_in an_number_in : Option Addr} {sl_number_in : Array (Option Value)} {oc_number_in kV_number_in dc_number_in pm_number_in cd_number_in ct_number_in : Value}
    {f_read : Addr} {od_read an_read : Option Addr} {sl_read : Array (Option Value)} {oc_read kV_read dc_read pm_read cd_read ct_read : Value}
    {f__law_alike : Addr} {od__law_alike an__law_alike : Option Addr} {sl__law_alike : Array (Option Value)} {oc__law_alike kV__law_alike dc__law_alike pm__law_alike cd__law_alike ct__law_alike : Value}
    {f__law_text : Addr} {od__law_text an__law_text : Option Addr} {sl__law_text : Array (Option Value)} {oc__law_text kV__law_text dc__law_text pm__law_text cd__law_text ct__law_text : Value}
    {f_law : Addr} {od_law an_law : Option Addr} {sl_law : Array (Option Value)} {oc_law kV_law dc_law pm_law cd_law ct_law : Value}
    {C_Parts : Addr}
    {f_Parts_is_row : Addr} {od_Parts_is_row an_Parts_is_row : Option Addr} {sl_Parts_is_row : Array (Option Value)} {oc_Parts_is_row kV_Parts_is_row dc_Parts_is_row pm_Parts_is_row cd_Parts_is_row ct_Parts_is_row : Value}
    {f_Parts_led_to : Addr} {od_Parts_led_to an_Parts_led_to : Option Addr} {sl_Parts_led_to : Array (Option Value)} {oc_Parts_led_to kV_Parts_led_to dc_Parts_led_to pm_Parts_led_to cd_Parts_led_to ct_Parts_led_to : Value}
    {f_Parts___init__ : Addr} {od_Parts___init__ an_Parts___init__ : Option Addr} {sl_Parts___init__ : Array (Option Value)} {oc_Parts___init__ kV_Parts___init__ dc_Parts___init__ pm_Parts___init__ cd_Parts___init__ ct_Parts___init__ : Value}
    {C_Reader : Addr}
    {f_Reader___init__ : Addr} {od_Reader___init__ an_Reader___init__ : Option Addr} {sl_Reader___init__ : Array (Option Value)} {oc_Reader___init__ kV_Reader___init__ dc_Reader___init__ pm_Reader___init__ cd_Reader___init__ ct_Reader___init__ : Value}
    {f_Reader_does_take : Addr} {od_Reader_does_take an_Reader_does_take : Option Addr} {sl_Reader_does_take : Array (Option Value)} {oc_Reader_does_take kV_Reader_does_take dc_Reader_does_take pm_Reader_does_take cd_Reader_does_take ct_Reader_does_take : Value}
    {tk_MOST_SIGNS : Tok}
    {tk_MOST_LOT : Tok}
    {tk_MOST_LEAD : Tok}
    {tk_MOST_NEED : Tok}
    {tk_MOST_STEPS : Tok}
    {tk_MACHINES : Tok}
    {tk_MOST_MINUTES : Tok}
    {tk_MOST_PARTS : Tok}
    {tk_MOST_LED : Tok}
    {tk_LETTERS : Tok}
    {tk_PART : Tok}
    {tk_NEED : Tok}
    {tk_STEP : Tok}
    {tk_FIGURES : Tok}
    (a__law_mix : PySem.W.nsIn K mainGlobals "_law_mix" = some (some (.ref f__law_mix)))
    (l__law_mix : K.lookup f__law_mix = some ⟨oc__law_mix, od__law_mix, .func (PySem.W.fnOf "_law_mix" "_law_mix" (defArgs s__law_mix) (defBody s__law_mix) (defScope s__law_mix) .none kV__law_mix dc__law_mix pm__law_mix an__law_mix cd__law_mix ct__law_mix), sl__law_mix⟩)
    (c__law_mix : PySem.W.codeIn K cd__law_mix "_law_mix" = true)
    (k__law_mix : PySem.W.keepIn K (.ref f__law_mix) = true)
    (a__law_next : PySem.W.nsIn K mainGlobals "_law_next" = some (some (.ref f__law_next)))
    (l__law_next : K.lookup f__law_next = some ⟨oc__law_next, od__law_next, .func (PySem.W.fnOf "_law_next" "_law_next" (defArgs s__law_next) (defBody s__law_next) (defScope s__law_next) .none kV__law_next dc__law_next pm__law_next an__law_next cd__law_next ct__law_next), sl__law_next⟩)
    (c__law_next : PySem.W.codeIn K cd__law_next "_law_next" = true)
    (k__law_next : PySem.W.keepIn K (.ref f__law_next) = true)
    (a_is_name : PySem.W.nsIn K mainGlobals "is_name" = some (some (.ref f_is_name)))
    (l_is_name : K.lookup f_is_name = some ⟨oc_is_name, od_is_name, .func (PySem.W.fnOf "is_name" "is_name" (defArgs s_is_name) (defBody s_is_name) (defScope s_is_name) .none kV_is_name dc_is_name pm_is_name an_is_name cd_is_name ct_is_name), sl_is_name⟩)
    (c_is_name : PySem.W.codeIn K cd_is_name "is_name" = true)
    (k_is_name : PySem.W.keepIn K (.ref f_is_name) = true)
    (a__law_led : PySem.W.nsIn K mainGlobals "_law_led" = some (some (.ref f__law_led)))
    (l__law_led : K.lookup f__law_led = some ⟨oc__law_led, od__law_led, .func (PySem.W.fnOf "_law_led" "_law_led" (defArgs s__law_led) (defBody s__law_led) (defScope s__law_led) .none kV__law_led dc__law_led pm__law_led an__law_led cd__law_led ct__law_led), sl__law_led⟩)
    (c__law_led : PySem.W.codeIn K cd__law_led "_law_led" = true)
    (k__law_led : PySem.W.keepIn K (.ref f__law_led) = true)
    (a__law_parts : PySem.W.nsIn K mainGlobals "_law_parts" = some (some (.ref f__law_parts)))
    (l__law_parts : K.lookup f__law_parts = some ⟨oc__law_parts, od__law_parts, .func (PySem.W.fnOf "_law_parts" "_law_parts" (defArgs s__law_parts) (defBody s__law_parts) (defScope s__law_parts) .none kV__law_parts dc__law_parts pm__law_parts an__law_parts cd__law_parts ct__law_parts), sl__law_parts⟩)
    (c__law_parts : PySem.W.codeIn K cd__law_parts "_law_parts" = true)
    (k__law_parts : PySem.W.keepIn K (.ref f__law_parts) = true)
    (a_written : PySem.W.nsIn K mainGlobals "written" = some (some (.ref f_written)))
    (l_written : K.lookup f_written = some ⟨oc_written, od_written, .func (PySem.W.fnOf "written" "written" (defArgs s_written) (defBody s_written) (defScope s_written) .none kV_written dc_written pm_written an_written cd_written ct_written), sl_written⟩)
    (c_written : PySem.W.codeIn K cd_written "written" = true)
    (k_written : PySem.W.keepIn K (.ref f_written) = true)
    (a_number_in : PySem.W.nsIn K mainGlobals "number_in" = some (some (.ref f_number_in)))
    (l_number_in : K.lookup f_number_in = some ⟨oc_number_in, od_number_in, .func (PySem.W.fnOf "number_in" "number_in" (defArgs s_number_in) (defBody s_number_in) (defScope s_number_in) .none kV_number_in dc_number_in pm_number_in an_number_in cd_number_in ct_number_in), sl_number_in⟩)
    (c_number_in : PySem.W.codeIn K cd_number_in "number_in" = true)
    (k_number_in : PySem.W.keepIn K (.ref f_number_in) = true)
    (a_read : PySem.W.nsIn K mainGlobals "read" = some (some (.ref f_read)))
    (l_read : K.lookup f_read = some ⟨oc_read, od_read, .func (PySem.W.fnOf "read" "read" (defArgs s_read) (defBody s_read) (defScope s_read) .none kV_read dc_read pm_read an_read cd_read ct_read), sl_read⟩)
    (c_read : PySem.W.codeIn K cd_read "read" = true)
    (k_read : PySem.W.keepIn K (.ref f_read) = true)
    (a__law_alike : PySem.W.nsIn K mainGlobals "_law_alike" = some (some (.ref f__law_alike)))
    (l__law_alike : K.lookup f__law_alike = some ⟨oc__law_alike, od__law_alike, .func (PySem.W.fnOf "_law_alike" "_law_alike" (defArgs s__law_alike) (defBody s__law_alike) (defScope s__law_alike) .none kV__law_alike dc__law_alike pm__law_alike an__law_alike cd__law_alike ct__law_alike), sl__law_alike⟩)
    (c__law_alike : PySem.W.codeIn K cd__law_alike "_law_alike" = true)
    (k__law_alike : PySem.W.keepIn K (.ref f__law_alike) = true)
    (a__law_text : PySem.W.nsIn K mainGlobals "_law_text" = some (some (.ref f__law_text)))
    (l__law_text : K.lookup f__law_text = some ⟨oc__law_text, od__law_text, .func (PySem.W.fnOf "_law_text" "_law_text" (defArgs s__law_text) (defBody s__law_text) (defScope s__law_text) .none kV__law_text dc__law_text pm__law_text an__law_text cd__law_text ct__law_text), sl__law_text⟩)
    (c__law_text : PySem.W.codeIn K cd__law_text "_law_text" = true)
    (k__law_text : PySem.W.keepIn K (.ref f__law_text) = true)
    (a_law : PySem.W.nsIn K mainGlobals "law" = some (some (.ref f_law)))
    (l_law : K.lookup f_law = some ⟨oc_law, od_law, .func (PySem.W.fnOf "law" "law" (defArgs s_law) (defBody s_law) (defScope s_law) .none kV_law dc_law pm_law an_law cd_law ct_law), sl_law⟩)
    (c_law : PySem.W.codeIn K cd_law "law" = true)
    (k_law : PySem.W.keepIn K (.ref f_law) = true)
    (aC_Parts : PySem.W.nsIn K mainGlobals "Parts" = some (some (.ref C_Parts)))
    (a_Parts_is_row : PySem.W.findIn K (.ref C_Parts) "is_row" = some (some (.ref f_Parts_is_row)))
    (i_Parts_is_row : PySem.W.isFn K (.ref f_Parts_is_row) = true)
    (l_Parts_is_row : K.lookup f_Parts_is_row = some ⟨oc_Parts_is_row, od_Parts_is_row, .func (PySem.W.fnOf "is_row" "Parts.is_row" (defArgs s_Parts_is_row) (defBody s_Parts_is_row) (defScope s_Parts_is_row) .none kV_Parts_is_row dc_Parts_is_row pm_Parts_is_row an_Parts_is_row cd_Parts_is_row ct_Parts_is_row), sl_Parts_is_row⟩)
    (c_Parts_is_row : PySem.W.codeIn K cd_Parts_is_row "Parts.is_row" = true)
    (k_Parts_is_row : PySem.W.keepIn K (.ref f_Parts_is_row) = true)
    (a_Parts_led_to : PySem.W.findIn K (.ref C_Parts) "led_to" = some (some (.ref f_Parts_led_to)))
    (i_Parts_led_to : PySem.W.isFn K (.ref f_Parts_led_to) = true)
    (l_Parts_led_to : K.lookup f_Parts_led_to = some ⟨oc_Parts_led_to, od_Parts_led_to, .func (PySem.W.fnOf "led_to" "Parts.led_to" (defArgs s_Parts_led_to) (defBody s_Parts_led_to) (defScope s_Parts_led_to) .none kV_Parts_led_to dc_Parts_led_to pm_Parts_led_to an_Parts_led_to cd_Parts_led_to ct_Parts_led_to), sl_Parts_led_to⟩)
    (c_Parts_led_to : PySem.W.codeIn K cd_Parts_led_to "Parts.led_to" = true)
    (k_Parts_led_to : PySem.W.keepIn K (.ref f_Parts_led_to) = true)
    (a_Parts___init__ : PySem.W.findIn K (.ref C_Parts) "__init__" = some (some (.ref f_Parts___init__)))
    (i_Parts___init__ : PySem.W.isFn K (.ref f_Parts___init__) = true)
    (l_Parts___init__ : K.lookup f_Parts___init__ = some ⟨oc_Parts___init__, od_Parts___init__, .func (PySem.W.fnOf "__init__" "Parts.__init__" (defArgs s_Parts___init__) (defBody s_Parts___init__) (defScope s_Parts___init__) .none kV_Parts___init__ dc_Parts___init__ pm_Parts___init__ an_Parts___init__ cd_Parts___init__ ct_Parts___init__), sl_Parts___init__⟩)
    (c_Parts___init__ : PySem.W.codeIn K cd_Parts___init__ "Parts.__init__" = true)
    (k_Parts___init__ : PySem.W.keepIn K (.ref f_Parts___init__) = true)
    (pg_Parts : PySem.W.plainGet K C_Parts Str.empty = true)
    (hd_Parts : PySem.W.hasDictIn K C_Parts = true)
    (po_Parts : PySem.W.plainOver K C_Parts = true)
    (sa_Parts : PySem.W.findIn K (.ref C_Parts) "__setattr__" = some (some (.builtin "object.__setattr__")))
    (mk_Parts : PySem.W.makesIn K C_Parts = true)
    (kc_Parts : PySem.W.keepIn K (.ref C_Parts) = true)
    (n_Parts_rows : PySem.W.findIn K (.ref C_Parts) "rows" = some none)
    (n_Parts_led : PySem.W.findIn K (.ref C_Parts) "led" = some none)
    (aC_Reader : PySem.W.nsIn K mainGlobals "Reader" = some (some (.ref C_Reader)))
    (a_Reader___init__ : PySem.W.findIn K (.ref C_Reader) "__init__" = some (some (.ref f_Reader___init__)))
    (i_Reader___init__ : PySem.W.isFn K (.ref f_Reader___init__) = true)
    (l_Reader___init__ : K.lookup f_Reader___init__ = some ⟨oc_Reader___init__, od_Reader___init__, .func (PySem.W.fnOf "__init__" "Reader.__init__" (defArgs s_Reader___init__) (defBody s_Reader___init__) (defScope s_Reader___init__) .none kV_Reader___init__ dc_Reader___init__ pm_Reader___init__ an_Reader___init__ cd_Reader___init__ ct_Reader___init__), sl_Reader___init__⟩)
    (c_Reader___init__ : PySem.W.codeIn K cd_Reader___init__ "Reader.__init__" = true)
    (k_Reader___init__ : PySem.W.keepIn K (.ref f_Reader___init__) = true)
    (a_Reader_does_take : PySem.W.findIn K (.ref C_Reader) "does_take" = some (some (.ref f_Reader_does_take)))
    (i_Reader_does_take : PySem.W.isFn K (.ref f_Reader_does_take) = true)
    (l_Reader_does_take : K.lookup f_Reader_does_take = some ⟨oc_Reader_does_take, od_Reader_does_take, .func (PySem.W.fnOf "does_take" "Reader.does_take" (defArgs s_Reader_does_take) (defBody s_Reader_does_take) (defScope s_Reader_does_take) .none kV_Reader_does_take dc_Reader_does_take pm_Reader_does_take an_Reader_does_take cd_Reader_does_take ct_Reader_does_take), sl_Reader_does_take⟩)
    (c_Reader_does_take : PySem.W.codeIn K cd_Reader_does_take "Reader.does_take" = true)
    (k_Reader_does_take : PySem.W.keepIn K (.ref f_Reader_does_take) = true)
    (pg_Reader : PySem.W.plainGet K C_Reader Str.empty = true)
    (hd_Reader : PySem.W.hasDictIn K C_Reader = true)
    (po_Reader : PySem.W.plainOver K C_Reader = true)
    (sa_Reader : PySem.W.findIn K (.ref C_Reader) "__setattr__" = some (some (.builtin "object.__setattr__")))
    (mk_Reader : PySem.W.makesIn K C_Reader = true)
    (kc_Reader : PySem.W.keepIn K (.ref C_Reader) = true)
    (n_Reader_rows : PySem.W.findIn K (.ref C_Reader) "rows" = some none)
    (g_MOST_SIGNS : PySem.W.nsIn K mainGlobals "MOST_SIGNS" = some (some (.int 8 tk_MOST_SIGNS)))
    (g_MOST_LOT : PySem.W.nsIn K mainGlobals "MOST_LOT" = some (some (.int 99 tk_MOST_LOT)))
    (g_MOST_LEAD : PySem.W.nsIn K mainGlobals "MOST_LEAD" = some (some (.int 30 tk_MOST_LEAD)))
    (g_MOST_NEED : PySem.W.nsIn K mainGlobals "MOST_NEED" = some (some (.int 9 tk_MOST_NEED)))
    (g_MOST_STEPS : PySem.W.nsIn K mainGlobals "MOST_STEPS" = some (some (.int 5 tk_MOST_STEPS)))
    (g_MACHINES : PySem.W.nsIn K mainGlobals "MACHINES" = some (some (.int 6 tk_MACHINES)))
    (g_MOST_MINUTES : PySem.W.nsIn K mainGlobals "MOST_MINUTES" = some (some (.int 99 tk_MOST_MINUTES)))
    (g_MOST_PARTS : PySem.W.nsIn K mainGlobals "MOST_PARTS" = some (some (.int 12 tk_MOST_PARTS)))
    (g_MOST_LED : PySem.W.nsIn K mainGlobals "MOST_LED" = some (some (.int 200 tk_MOST_LED)))
    (g_LETTERS : PySem.W.nsIn K mainGlobals "LETTERS" = some (some (.str letters tk_LETTERS)))
    (g_PART : PySem.W.nsIn K mainGlobals "PART" = some (some (.str "part" tk_PART)))
    (g_NEED : PySem.W.nsIn K mainGlobals "NEED" = some (some (.str "need" tk_NEED)))
    (g_STEP : PySem.W.nsIn K mainGlobals "STEP" = some (some (.str "step" tk_STEP)))
    (g_FIGURES : PySem.W.nsIn K mainGlobals "FIGURES" = some (some (.str figs tk_FIGURES)))
    (z_list : PySem.W.nsIn K mainGlobals "list" = some none)
    (z_max : PySem.W.nsIn K mainGlobals "max" = some none)
    (z_len : PySem.W.nsIn K mainGlobals "len" = some none)
    (z_all : PySem.W.nsIn K mainGlobals "all" = some none)
    (z_set : PySem.W.nsIn K mainGlobals "set" = some none)
    (z_enumerate : PySem.W.nsIn K mainGlobals "enumerate" = some none)
    (z_tuple : PySem.W.nsIn K mainGlobals "tuple" = some none)
    (z_sum : PySem.W.nsIn K mainGlobals "sum" = some none)
    (z_range : PySem.W.nsIn K mainGlobals "range" = some none)
    (z_str : PySem.W.nsIn K mainGlobals "str" = some none)
    (z_int : PySem.W.nsIn K mainGlobals "int" = some none)
    (z_isinstance : PySem.W.nsIn K mainGlobals "isinstance" = some none)
    (z_bool : PySem.W.nsIn K mainGlobals "bool" = some none)
    : ∃ fd : FuncData, (∀ (s : Shared) (v : Value), BindsTo s fd ⟨[v], []⟩ [("_law_script", v)]) ∧ ∀ base : Heap, K.In base → base.Ns mainGlobals mg → FnOk l.prog w K mg base CX0 15 fa fd ["_law_script"] (spLaw K) := by
  have e := hfa.symm.trans (PySem.W.mg_of X G a_law)
  cases e
  have F__law_mix := fun_mk (st := s__law_mix) l__law_mix c__law_mix k__law_mix
  have m__law_mix := PySem.W.mg_of X G a__law_mix
  have F__law_next := fun_mk (st := s__law_next) l__law_next c__law_next k__law_next
  have m__law_next := PySem.W.mg_of X G a__law_next
  have F_is_name := fun_mk (st := s_is_name) l_is_name c_is_name k_is_name
  have m_is_name := PySem.W.mg_of X G a_is_name
  have F__law_led := fun_mk (st := s__law_led) l__law_led c__law_led k__law_led
  have m__law_led := PySem.W.mg_of X G a__law_led
  have F__law_parts := fun_mk (st := s__law_parts) l__law_parts c__law_parts k__law_parts
  have m__law_parts := PySem.W.mg_of X G a__law_parts
  have F_written := fun_mk (st := s_written) l_written c_written k_written
  have m_written := PySem.W.mg_of X G a_written
  have F_number_in := fun_mk (st := s_number_in) l_number_in c_number_in k_number_in
  have m_number_in := PySem.W.mg_of X G a_number_in
  have F_read := fun_mk (st := s_read) l_read c_read k_read
  have m_read := PySem.W.mg_of X G a_read
  have F__law_alike := fun_mk (st := s__law_alike) l__law_alike c__law_alike k__law_alike
  have m__law_alike := PySem.W.mg_of X G a__law_alike
  have F__law_text := fun_mk (st := s__law_text) l__law_text c__law_text k__law_text
  have m__law_text := PySem.W.mg_of X G a__law_text
  have F_law := fun_mk (st := s_law) l_law c_law k_law
  have m_law := PySem.W.mg_of X G a_law
  have F_Parts_is_row := fun_mk (st := s_Parts_is_row) l_Parts_is_row c_Parts_is_row k_Parts_is_row
  have F_Parts_led_to := fun_mk (st := s_Parts_led_to) l_Parts_led_to c_Parts_led_to k_Parts_led_to
  have F_Parts___init__ := fun_mk (st := s_Parts___init__) l_Parts___init__ c_Parts___init__ k_Parts___init__
  have cl_Parts : Cls K C_Parts := ⟨pg_Parts, hd_Parts, po_Parts, sa_Parts⟩
  have mC_Parts := PySem.W.mg_of X G aC_Parts
  have F_Reader___init__ := fun_mk (st := s_Reader___init__) l_Reader___init__ c_Reader___init__ k_Reader___init__
  have F_Reader_does_take := fun_mk (st := s_Reader_does_take) l_Reader_does_take c_Reader_does_take k_Reader_does_take
  have cl_Reader : Cls K C_Reader := ⟨pg_Reader, hd_Reader, po_Reader, sa_Reader⟩
  have mC_Reader := PySem.W.mg_of X G aC_Reader
  have c_MOST_SIGNS : GlI mg "MOST_SIGNS" 8 := ⟨_, PySem.W.mg_of X G g_MOST_SIGNS⟩
  have c_MOST_LOT : GlI mg "MOST_LOT" 99 := ⟨_, PySem.W.mg_of X G g_MOST_LOT⟩
  have c_MOST_LEAD : GlI mg "MOST_LEAD" 30 := ⟨_, PySem.W.mg_of X G g_MOST_LEAD⟩
  have c_MOST_NEED : GlI mg "MOST_NEED" 9 := ⟨_, PySem.W.mg_of X G g_MOST_NEED⟩
  have c_MOST_STEPS : GlI mg "MOST_STEPS" 5 := ⟨_, PySem.W.mg_of X G g_MOST_STEPS⟩
  have c_MACHINES : GlI mg "MACHINES" 6 := ⟨_, PySem.W.mg_of X G g_MACHINES⟩
  have c_MOST_MINUTES : GlI mg "MOST_MINUTES" 99 := ⟨_, PySem.W.mg_of X G g_MOST_MINUTES⟩
  have c_MOST_PARTS : GlI mg "MOST_PARTS" 12 := ⟨_, PySem.W.mg_of X G g_MOST_PARTS⟩
  have c_MOST_LED : GlI mg "MOST_LED" 200 := ⟨_, PySem.W.mg_of X G g_MOST_LED⟩
  have c_LETTERS : GlS mg "LETTERS" letters := ⟨_, PySem.W.mg_of X G g_LETTERS⟩
  have c_PART : GlS mg "PART" "part" := ⟨_, PySem.W.mg_of X G g_PART⟩
  have c_NEED : GlS mg "NEED" "need" := ⟨_, PySem.W.mg_of X G g_NEED⟩
  have c_STEP : GlS mg "STEP" "step" := ⟨_, PySem.W.mg_of X G g_STEP⟩
  have c_FIGURES : GlS mg "FIGURES" figs := ⟨_, PySem.W.mg_of X G g_FIGURES⟩
  have n_list := PySem.W.mg_none_of X G z_list
  have n_max := PySem.W.mg_none_of X G z_max
  have n_len := PySem.W.mg_none_of X G z_len
  have n_all := PySem.W.mg_none_of X G z_all
  have n_set := PySem.W.mg_none_of X G z_set
  have n_enumerate := PySem.W.mg_none_of X G z_enumerate
  have n_tuple := PySem.W.mg_none_of X G z_tuple
  have n_sum := PySem.W.mg_none_of X G z_sum
  have n_range := PySem.W.mg_none_of X G z_range
  have n_str := PySem.W.mg_none_of X G z_str
  have n_int := PySem.W.mg_none_of X G z_int
  have n_isinstance := PySem.W.mg_none_of X G z_isinstance
  have n_bool := PySem.W.mg_none_of X G z_bool
  refine ⟨PySem.W.fnOf "law" "law" (defArgs s_law) (defBody s_law) (defScope s_law) .none kV_law dc_law pm_law an_law cd_law ct_law, fun s v => .of_eq rfl, fun base _ _ => ?_⟩
  have G__law_mix : FnG l.prog w K mg base 1 "_law_mix" ["_law_script", "_law_seed"] (spMix K) := ⟨_, _, ok__law_mix F__law_mix n_list, m__law_mix, k__law_mix, (F__law_mix.binds (ps := ["_law_script", "_law_seed"]) fun _ _ _ _ _ _ us hl => match us, hl with | [_, _], _ => rfl)⟩
  have G__law_next : FnG l.prog w K mg base 1 "_law_next" ["_law_h", "_law_many"] spNext := ⟨_, _, ok__law_next F__law_next n_max n_len, m__law_next, k__law_next, (F__law_next.binds (ps := ["_law_h", "_law_many"]) fun _ _ _ _ _ _ us hl => match us, hl with | [_, _], _ => rfl)⟩
  have G_is_name : FnG l.prog w K mg base 1 "is_name" ["word"] spIsName := ⟨_, _, ok_is_name F_is_name n_len n_all c_MOST_SIGNS c_LETTERS, m_is_name, k_is_name, (F_is_name.binds (ps := ["word"]) fun _ _ _ _ _ _ us hl => match us, hl with | [_], _ => rfl)⟩
  have G_is_row : MtG l.prog w K mg base 2 C_Parts "is_row" ["self", "row"] (spIsRow K C_Parts) := ⟨_, _, ok_is_row F_Parts_is_row G_is_name cl_Parts n_Parts_rows n_len n_all n_set c_MOST_LOT c_MOST_LEAD c_MOST_NEED c_MOST_STEPS c_MACHINES c_MOST_MINUTES, ⟨a_Parts_is_row, i_Parts_is_row, k_Parts_is_row⟩, (F_Parts_is_row.binds (ps := ["self", "row"]) fun _ _ _ _ _ _ us hl => match us, hl with | [_, _], _ => rfl), cl_Parts⟩
  have G_led_to : MtG l.prog w K mg base 1 C_Parts "led_to" ["self", "needs"] (spLedTo K C_Parts) := ⟨_, _, ok_led_to F_Parts_led_to cl_Parts n_Parts_rows n_Parts_led, ⟨a_Parts_led_to, i_Parts_led_to, k_Parts_led_to⟩, (F_Parts_led_to.binds (ps := ["self", "needs"]) fun _ _ _ _ _ _ us hl => match us, hl with | [_, _], _ => rfl), cl_Parts⟩
  have G_Parts : MkG l.prog w K mg base 3 C_Parts "Parts" ["self", "told"] (spPInit K C_Parts) := ⟨_, _, ok_parts_init F_Parts___init__ G_is_row G_led_to cl_Parts n_Parts_rows n_Parts_led n_enumerate n_tuple n_sum c_MOST_PARTS c_MOST_LED, ⟨mk_Parts, a_Parts___init__, i_Parts___init__, kc_Parts⟩, mC_Parts, (F_Parts___init__.binds (ps := ["self", "told"]) fun _ _ _ _ _ _ us hl => match us, hl with | [_, _], _ => rfl)⟩
  have G_led : ∀ n, FnG l.prog w K mg base n "_law_led" ["_law_rows", "_law_needs"] (spLL K n) := fun n => by
    induction n with
    | zero => exact ⟨_, _, ok__law_led0, m__law_led, k__law_led, (F__law_led.binds (ps := ["_law_rows", "_law_needs"]) fun _ _ _ _ _ _ us hl => match us, hl with | [_, _], _ => rfl)⟩
    | succ n ih => exact ⟨_, _, ok__law_ledS F__law_led ih, m__law_led, k__law_led, (F__law_led.binds (ps := ["_law_rows", "_law_needs"]) fun _ _ _ _ _ _ us hl => match us, hl with | [_, _], _ => rfl)⟩
  have G__law_led := G_led 13
  have G__law_parts : FnG l.prog w K mg base 14 "_law_parts" ["_law_h", "_law_most"] (spLParts K) := ⟨_, _, ok__law_parts F__law_parts G__law_next G__law_led n_range n_tuple n_sum, m__law_parts, k__law_parts, (F__law_parts.binds (ps := ["_law_h", "_law_most"]) fun _ _ _ _ _ _ us hl => match us, hl with | [_, _], _ => rfl)⟩
  have G_written : FnG l.prog w K mg base 5 "written" ["parts"] (spWritten K) := ⟨_, _, ok_written F_written G_Parts n_str c_PART c_NEED c_STEP, m_written, k_written, (F_written.binds (ps := ["parts"]) fun _ _ _ _ _ _ us hl => match us, hl with | [_], _ => rfl)⟩
  have G_number_in : FnG l.prog w K mg base 1 "number_in" ["word"] spNumberIn := ⟨_, _, ok_number_in F_number_in n_len n_int c_FIGURES, m_number_in, k_number_in, (F_number_in.binds (ps := ["word"]) fun _ _ _ _ _ _ us hl => match us, hl with | [_], _ => rfl)⟩
  have G_Reader : MkG l.prog w K mg base 1 C_Reader "Reader" ["self"] (spRInit C_Reader) := ⟨_, _, ok_reader_init F_Reader___init__ cl_Reader n_Reader_rows, ⟨mk_Reader, a_Reader___init__, i_Reader___init__, kc_Reader⟩, mC_Reader, (F_Reader___init__.binds (ps := ["self"]) fun _ _ _ _ _ _ us hl => match us, hl with | [_], _ => rfl)⟩
  have G_does_take : MtG l.prog w K mg base 2 C_Reader "does_take" ["self", "words"] (spTake K C_Reader) := ⟨_, _, okOr (ok_take_part F_Reader_does_take G_is_name G_number_in cl_Reader n_Reader_rows n_len c_PART c_NEED c_STEP) (okOr (ok_take_need F_Reader_does_take G_is_name G_number_in cl_Reader n_Reader_rows n_len c_PART c_NEED c_STEP) (ok_take_step F_Reader_does_take G_is_name G_number_in cl_Reader n_Reader_rows n_len c_PART c_NEED c_STEP)), ⟨a_Reader_does_take, i_Reader_does_take, k_Reader_does_take⟩, (F_Reader_does_take.binds (ps := ["self", "words"]) fun _ _ _ _ _ _ us hl => match us, hl with | [_, _], _ => rfl), cl_Reader⟩
  have G_read : FnG l.prog w K mg base 5 "read" ["text"] (spRead K) := ⟨_, _, ok_read F_read G_Parts G_Reader G_does_take cl_Reader n_Reader_rows n_enumerate n_tuple, m_read, k_read, (F_read.binds (ps := ["text"]) fun _ _ _ _ _ _ us hl => match us, hl with | [_], _ => rfl)⟩
  have G_alike : ∀ n, FnG l.prog w K mg base n "_law_alike" ["_law_found", "_law_due"] (spAl K n) := fun n => by
    induction n with
    | zero => exact ⟨_, _, ok__law_alike0, m__law_alike, k__law_alike, (F__law_alike.binds (ps := ["_law_found", "_law_due"]) fun _ _ _ _ _ _ us hl => match us, hl with | [_, _], _ => rfl)⟩
    | succ n ih => exact ⟨_, _, ok__law_alikeS F__law_alike ih n_isinstance n_tuple n_list n_str n_int n_bool n_len n_range, m__law_alike, k__law_alike, (F__law_alike.binds (ps := ["_law_found", "_law_due"]) fun _ _ _ _ _ _ us hl => match us, hl with | [_, _], _ => rfl)⟩
  have G__law_alike := G_alike 6
  have G__law_text : FnG l.prog w K mg base 1 "_law_text" ["_law_rows"] (spLText K) := ⟨_, _, ok__law_text F__law_text n_str, m__law_text, k__law_text, (F__law_text.binds (ps := ["_law_rows"]) fun _ _ _ _ _ _ us hl => match us, hl with | [_], _ => rfl)⟩
  exact ok_law F_law G__law_mix G__law_next G__law_parts G_written G_read G__law_text G__law_alike n_range n_tuple
theorem walk {l : PySem.W.OpenLaw} {q : Program} {loose : List Str} {XP : (Str → Option Value) → Heap → Prop} {YP : World → Heap → Prop} {d : DefRec} {K : Params → PySem.W.Frag} (hn : l.most = some 63) (hdf : d.params.defaults = [])
    (hY : ∀ (w : World) (h : Heap), YP w h → (K w.params).In h)
    (F : ∀ (w : World) (mg : Str → Option Value) (fa : Addr) (h : Heap), (K w.params).In h → h.Ns mainGlobals mg → mg d.name = some (.ref fa) →
      ∃ fd : FuncData, (∀ (s : Shared) (u : Value), BindsTo s fd ⟨[u], []⟩ [("_law_script", u)]) ∧ ∀ base : Heap, (K w.params).In base → base.Ns mainGlobals mg → FnOk l.prog w (K w.params) mg base CX0 15 fa fd ["_law_script"] (spLaw (K w.params))) :
    PySem.W.WalkO q loose XP YP l.row.toRowW d [] (fun f vs => PySem.call f vs) :=
  L2.walk_of (n := 63) (k := 15) (x := "_law_script") (CX := fun _ => CX0) (sp := fun w => spLaw (K w.params)) hn (by decide) hdf ⟨rfl, by decide, by decide⟩ hY F (fun _ _ a ns hl _ hS => ⟨a, ns, rfl, hS, hl, fun _ => rfl⟩) fun _ _ _ _ _ z => z
end LW
open PySem PySem.W PyProof.Rows
set_option maxRecDepth 100000 in
set_option maxHeartbeats 0 in
theorem PySem.Challenge.cw_partkin_k27_books_written_and_read_holds : PySem.Challenge.rw_partkin_k27_books_written_and_read.Holds := by
  w_on; o_law; k_head; (case hw => w_witness2)
  k_fill
  refine LW.walk (l := PySem.Challenge.rw_partkin_k27_books_written_and_read) rfl rfl (fun w h Y => PySem.W.kIn_of Y) ?F
  case F =>
    intro w mg fa h KX G hmg
    refine' LW.all_mk KX G hmg ?a__law_mix ?l__law_mix ?c__law_mix ?k__law_mix ?a__law_next ?l__law_next ?c__law_next ?k__law_next ?a_is_name ?l_is_name ?c_is_name ?k_is_name ?a__law_led ?l__law_led ?c__law_led ?k__law_led ?a__law_parts ?l__law_parts ?c__law_parts ?k__law_parts ?a_written ?l_written ?c_written ?k_written ?a_number_in ?l_number_in ?c_number_in ?k_number_in ?a_read ?l_read ?c_read ?k_read ?a__law_alike ?l__law_alike ?c__law_alike ?k__law_alike ?a__law_text ?l__law_text ?c__law_text ?k__law_text ?a_law ?l_law ?c_law ?k_law ?aC_Parts ?a_Parts_is_row ?i_Parts_is_row ?l_Parts_is_row ?c_Parts_is_row ?k_Parts_is_row ?a_Parts_led_to ?i_Parts_led_to ?l_Parts_led_to ?c_Parts_led_to ?k_Parts_led_to ?a_Parts___init__ ?i_Parts___init__ ?l_Parts___init__ ?c_Parts___init__ ?k_Parts___init__ ?pg_Parts ?hd_Parts ?po_Parts ?sa_Parts ?mk_Parts ?kc_Parts ?n_Parts_rows ?n_Parts_led ?aC_Reader ?a_Reader___init__ ?i_Reader___init__ ?l_Reader___init__ ?c_Reader___init__ ?k_Reader___init__ ?a_Reader_does_take ?i_Reader_does_take ?l_Reader_does_take ?c_Reader_does_take ?k_Reader_does_take ?pg_Reader ?hd_Reader ?po_Reader ?sa_Reader ?mk_Reader ?kc_Reader ?n_Reader_rows ?g_MOST_SIGNS ?g_MOST_LOT ?g_MOST_LEAD ?g_MOST_NEED ?g_MOST_STEPS ?g_MACHINES ?g_MOST_MINUTES ?g_MOST_PARTS ?g_MOST_LED ?g_LETTERS ?g_PART ?g_NEED ?g_STEP ?g_FIGURES ?z_list ?z_max ?z_len ?z_all ?z_set ?z_enumerate ?z_tuple ?z_sum ?z_range ?z_str ?z_int ?z_isinstance ?z_bool
    (case a__law_mix => k_is)
    (case l__law_mix => k_is)
    (case c__law_mix => k_is)
    (case k__law_mix => k_is)
    (case a__law_next => k_is)
    (case l__law_next => k_is)
    (case c__law_next => k_is)
    (case k__law_next => k_is)
    (case a_is_name => k_is)
    (case l_is_name => k_is)
    (case c_is_name => k_is)
    (case k_is_name => k_is)
    (case a__law_led => k_is)
    (case l__law_led => k_is)
    (case c__law_led => k_is)
    (case k__law_led => k_is)
    (case a__law_parts => k_is)
    (case l__law_parts => k_is)
    (case c__law_parts => k_is)
    (case k__law_parts => k_is)
    (case a_written => k_is)
    (case l_written => k_is)
    (case c_written => k_is)
    (case k_written => k_is)
    (case a_number_in => k_is)
    (case l_number_in => k_is)
    (case c_number_in => k_is)
    (case k_number_in => k_is)
    (case a_read => k_is)
    (case l_read => k_is)
    (case c_read => k_is)
    (case k_read => k_is)
    (case a__law_alike => k_is)
    (case l__law_alike => k_is)
    (case c__law_alike => k_is)
    (case k__law_alike => k_is)
    (case a__law_text => k_is)
    (case l__law_text => k_is)
    (case c__law_text => k_is)
    (case k__law_text => k_is)
    (case a_law => k_is)
    (case l_law => k_is)
    (case c_law => k_is)
    (case k_law => k_is)
    (case aC_Parts => k_is)
    (case a_Parts_is_row => k_is)
    (case i_Parts_is_row => k_is)
    (case l_Parts_is_row => k_is)
    (case c_Parts_is_row => k_is)
    (case k_Parts_is_row => k_is)
    (case a_Parts_led_to => k_is)
    (case i_Parts_led_to => k_is)
    (case l_Parts_led_to => k_is)
    (case c_Parts_led_to => k_is)
    (case k_Parts_led_to => k_is)
    (case a_Parts___init__ => k_is)
    (case i_Parts___init__ => k_is)
    (case l_Parts___init__ => k_is)
    (case c_Parts___init__ => k_is)
    (case k_Parts___init__ => k_is)
    (case pg_Parts => k_is)
    (case hd_Parts => k_is)
    (case po_Parts => k_is)
    (case sa_Parts => k_is)
    (case mk_Parts => k_is)
    (case kc_Parts => k_is)
    (case n_Parts_rows => k_is)
    (case n_Parts_led => k_is)
    (case aC_Reader => k_is)
    (case a_Reader___init__ => k_is)
    (case i_Reader___init__ => k_is)
    (case l_Reader___init__ => k_is)
    (case c_Reader___init__ => k_is)
    (case k_Reader___init__ => k_is)
    (case a_Reader_does_take => k_is)
    (case i_Reader_does_take => k_is)
    (case l_Reader_does_take => k_is)
    (case c_Reader_does_take => k_is)
    (case k_Reader_does_take => k_is)
    (case pg_Reader => k_is)
    (case hd_Reader => k_is)
    (case po_Reader => k_is)
    (case sa_Reader => k_is)
    (case mk_Reader => k_is)
    (case kc_Reader => k_is)
    (case n_Reader_rows => k_is)
    (case g_MOST_SIGNS => k_is)
    (case g_MOST_LOT => k_is)
    (case g_MOST_LEAD => k_is)
    (case g_MOST_NEED => k_is)
    (case g_MOST_STEPS => k_is)
    (case g_MACHINES => k_is)
    (case g_MOST_MINUTES => k_is)
    (case g_MOST_PARTS => k_is)
    (case g_MOST_LED => k_is)
    (case g_LETTERS => k_is)
    (case g_PART => k_is)
    (case g_NEED => k_is)
    (case g_STEP => k_is)
    (case g_FIGURES => k_is)
    (case z_list => k_is)
    (case z_max => k_is)
    (case z_len => k_is)
    (case z_all => k_is)
    (case z_set => k_is)
    (case z_enumerate => k_is)
    (case z_tuple => k_is)
    (case z_sum => k_is)
    (case z_range => k_is)
    (case z_str => k_is)
    (case z_int => k_is)
    (case z_isinstance => k_is)
    (case z_bool => k_is)
