import PyProof.Rows.All
import Wide.All
import OpenK.AllK
import Wide.FinOn
import Open.SpecLaws
import KE.OsGo
import HandS.ForSpec
import HandS.Dict
import HandS.Comp
import HandS.Iter
import HandS.SetFor
import HandS.ExcInit
import HandS.ExcField
import HandS.Strs
import PySem.Challenge.RW_stonecave_s01_answers
set_option Elab.async false
set_option linter.all false
set_option maxRecDepth 100000
set_option maxHeartbeats 4000000

/-! SC0: the base: weaker readings, fields of instances by place, what is called, what the top holds. -/
namespace SC
open PySem PySem.Spec PyProof.Rows L2

/-! ### readings made weaker -/
section
variable {X : Cx} {e : Expr} {st : Stmt}
theorem pe_imp {t t' : TE} (h : PE X e t) (f : ∀ σ H Q, t' σ H Q → t σ H Q) : PE X e t' := ⟨fun pins s σ H Q I q => h.run pins s σ H Q I (f σ H Q q)⟩
theorem pt_imp {t t' : TT} (h : PT X e t) (f : ∀ σ H Q, t' σ H Q → t σ H Q) : PT X e t' := ⟨fun pins s σ H Q I q => h.run pins s σ H Q I (f σ H Q q)⟩
theorem ps_imp {t t' : TS} (h : PS X st t) (f : ∀ D σ H, t' D σ H → t D σ H) : PS X st t' := ⟨fun pins s σ H D I q => h.run pins s σ H D I (f D σ H q)⟩
end

/-! ### instances: fields by place -/
def kz (ks : List Str) (vs : List V) : List (Str × V) := ks.zip vs
/-- f is the i-th name, and no earlier one -/
def ixK : List Str → Str → Nat → Bool
  | [], _, _ => false
  | k :: _, f, 0 => f == k
  | k :: r, f, i + 1 => !(f == k) && ixK r f i
def noK (ks : List Str) (m : Str) : Bool := ks.all fun k => !(m == k)
theorem kz_get : ∀ {ks : List Str} {vs : List V} {f : Str} {i : Nat} {v : V}, ixK ks f i = true → vs[i]? = some v → (kz ks vs).lookup f = some v
  | [], _, _, _, _, h, _ => by cases h
  | _ :: _, [], _, _, _, _, e => by simp at e
  | k :: ks, x :: vs, f, 0, v, h, e => by
    have h2 : (f == k) = true := h
    have e2 : x = v := Option.some.inj e
    show List.lookup f ((k, x) :: ks.zip vs) = some v
    simp only [List.lookup, h2, e2]
  | k :: ks, x :: vs, f, i + 1, v, h, e => by
    have h2 : (!(f == k) && ixK ks f i) = true := h
    rw [Bool.and_eq_true] at h2
    have h3 : (f == k) = false := by simpa using h2.1
    have ih := kz_get (ks := ks) (vs := vs) (f := f) (i := i) (v := v) h2.2 (by simpa using e)
    show List.lookup f ((k, x) :: ks.zip vs) = some v
    simp only [List.lookup, h3]
    exact ih
theorem kz_no : ∀ {ks : List Str} {vs : List V} {m : Str}, noK ks m = true → (kz ks vs).lookup m = none
  | [], _, _, _ => rfl
  | _ :: _, [], _, _ => rfl
  | k :: ks, x :: vs, m, h => by
    have h2 : (!(m == k) && noK ks m) = true := h
    rw [Bool.and_eq_true] at h2
    have h3 : (m == k) = false := by simpa using h2.1
    show List.lookup m ((k, x) :: ks.zip vs) = none
    simp only [List.lookup, h3]
    exact kz_no h2.2
theorem kz_put : ∀ {ks : List Str} {vs : List V} {f : Str} {i : Nat} {y : V}, ixK ks f i = true → i < vs.length → putF f y (kz ks vs) = kz ks (vs.set i y)
  | [], _, _, _, _, h, _ => by cases h
  | _ :: _, [], _, _, _, _, e => by simp at e
  | k :: ks, x :: vs, f, 0, y, h, e => by
    have h2 : f = k := by simpa using (show (f == k) = true from h)
    show (if k = f then (k, y) :: ks.zip vs else (k, x) :: putF f y (ks.zip vs)) = (k, y) :: ks.zip vs
    rw [if_pos h2.symm]
  | k :: ks, x :: vs, f, i + 1, y, h, e => by
    have h2 : (!(f == k) && ixK ks f i) = true := h
    rw [Bool.and_eq_true] at h2
    have h3 : ¬ k = f := fun z => by simp [z] at h2
    have ih := kz_put (ks := ks) (vs := vs) (f := f) (i := i) (y := y) h2.2 (by simpa using e)
    show (if k = f then (k, y) :: ks.zip vs else (k, x) :: putF f y (ks.zip vs)) = (k, x) :: ks.zip (vs.set i y)
    rw [if_neg h3]
    exact congrArg _ ih
theorem kz_new : ∀ {ks : List Str} {vs : List V} {f : Str} {y : V}, noK ks f = true → vs.length = ks.length → putF f y (kz ks vs) = kz (ks ++ [f]) (vs ++ [y])
  | [], [], _, _, _, _ => rfl
  | [], _ :: _, _, _, _, e => by simp at e
  | _ :: _, [], _, _, _, e => by simp at e
  | k :: ks, x :: vs, f, y, h, e => by
    have h2 : (!(f == k) && noK ks f) = true := h
    rw [Bool.and_eq_true] at h2
    have h3 : ¬ k = f := fun z => by simp [z] at h2
    have ih := kz_new (ks := ks) (vs := vs) (f := f) (y := y) h2.2 (by simpa using e)
    show (if k = f then (k, y) :: ks.zip vs else (k, x) :: putF f y (ks.zip vs)) = (k, x) :: (ks ++ [f]).zip (vs ++ [y])
    rw [if_neg h3]
    exact congrArg _ ih
theorem kz_len (ks : List Str) (vs : List V) : (kz ks vs).length ≤ ks.length := by
  unfold kz
  rw [List.length_zip]
  exact Nat.min_le_left _ _

/-- o.f, the i-th field of the class at C -/
def tGet (C : Addr) (ks : List Str) (i : Nat) (to : TE) : TE := fun σ H Q => to σ H fun x H1 => ∃ a dx vs v, x = .ref a ∧ H1 a = some (.ins C dx (kz ks vs)) ∧ vs[i]? = some v ∧ Q v H1
/-- o.f = e, a field that is there -/
def sPut (C : Addr) (ks : List Str) (i : Nat) (to tv : TE) : TS := fun D σ H => tv σ H fun y H1 => to σ H1 fun x H2 => ∃ a dx vs, x = .ref a ∧ H2 a = some (.ins C dx (kz ks vs)) ∧ i < vs.length ∧ D.nx σ (upd H2 a (.ins C dx (kz ks (vs.set i y))))
/-- o.f = e, a field that is new, behind ks -/
def sNew (C : Addr) (ks : List Str) (f : Str) (to tv : TE) : TS := fun D σ H => tv σ H fun y H1 => to σ H1 fun x H2 => ∃ a dx vs, x = .ref a ∧ H2 a = some (.ins C dx (kz ks vs)) ∧ vs.length = ks.length ∧ D.nx σ (upd H2 a (.ins C dx (kz (ks ++ [f]) (vs ++ [y]))))
section
variable {X : Cx} {C : Addr} {ks : List Str} {i : Nat} {o value : Expr} {f : Str} {pos pos' : Pos} {to tv : TE}
theorem pe_mono {e : Expr} {t : TE} (h : PE X e t) : PE X e (fun σ H Q => ∃ Q' : VK, t σ H Q' ∧ ∀ v H1, Q' v H1 → Q v H1) := ⟨fun pins s σ H Q I ⟨Q', q, g⟩ =>
  thn (h.run pins s σ H Q' I q) fun _ _ ⟨v, H1, J, r, p⟩ => ⟨v, H1, J, r, g v H1 p⟩⟩
theorem pa_mono {es : List Expr} {t : TA} (h : PA X es t) : PA X es (fun σ H Q => ∃ Q' : List V → Hp → Prop, t σ H Q' ∧ ∀ v H1, Q' v H1 → Q v H1) := ⟨fun pos pins s σ H Q I ⟨Q', q, g⟩ =>
  thn (h.run pos pins s σ H Q' I q) fun _ _ ⟨v, H1, J, r, p⟩ => ⟨v, H1, J, r, g v H1 p⟩⟩
theorem pt_mono {e : Expr} {t : TT} (h : PT X e t) : PT X e (fun σ H Q => ∃ Q' : Bool → Hp → Prop, t σ H Q' ∧ ∀ v H1, Q' v H1 → Q v H1) := ⟨fun pins s σ H Q I ⟨Q', q, g⟩ =>
  thn (h.run pins s σ H Q' I q) fun _ _ ⟨H1, J, p⟩ => ⟨H1, J, g _ H1 p⟩⟩
theorem pe_get (c : Cls X.K C) (n : NoAttr X.K C f) (hk : ixK ks f i = true) (he : PE X o to) (hb : attributeBase o f X.env (eval o X.env) = eval o X.env := by rfl) : PE X (.Attribute o f pos) (tGet C ks i to) :=
  pe_imp (pe_fld (pe_mono he) hb) fun σ H Q h => ⟨_, h, fun x H1 ⟨a, dx, vs, v, e1, e2, e3, q⟩ => ⟨a, C, dx, _, v, e1, e2, c, n, kz_get hk e3, q⟩⟩
theorem ps_put (c : Cls X.K C) (n : NoAttr X.K C f) (hk : ixK ks f i = true) (hz : ks.length < 1000) (ha : PE X o to) (hv : PE X value tv) (hs : swapsWith value (some (.Attribute o f pos')) pos.line X.env = pure false) :
    PS X (.Assign [.Attribute o f pos'] value pos) (sPut C ks i to tv) :=
  ps_imp (ps_fld (pe_mono ha) (pe_mono hv) hs) fun D σ H h => ⟨_, h, fun y H1 h1 => ⟨_, h1, fun x H2 ⟨a, dx, vs, e1, e2, e3, q⟩ => ⟨a, C, dx, _, e1, e2, c, n, Nat.lt_of_le_of_lt (kz_len ks vs) hz, by rw [kz_put hk e3]; exact q⟩⟩⟩
theorem ps_new (c : Cls X.K C) (n : NoAttr X.K C f) (hk : noK ks f = true) (hz : ks.length < 1000) (ha : PE X o to) (hv : PE X value tv) (hs : swapsWith value (some (.Attribute o f pos')) pos.line X.env = pure false) :
    PS X (.Assign [.Attribute o f pos'] value pos) (sNew C ks f to tv) :=
  ps_imp (ps_fld (pe_mono ha) (pe_mono hv) hs) fun D σ H h => ⟨_, h, fun y H1 h1 => ⟨_, h1, fun x H2 ⟨a, dx, vs, e1, e2, e3, q⟩ => ⟨a, C, dx, _, e1, e2, c, n, Nat.lt_of_le_of_lt (kz_len ks vs) hz, by rw [kz_new hk e3]; exact q⟩⟩⟩
end

/-! ### what is called -/
/-- a def of the module, ready to be called -/
structure CallOk (P : Program) (w : World) (K : PySem.W.Frag) (mg : Str → Option Value) (base : Heap) (CX : CXT) (k : Nat) (x : Str) (ps : List Str) (sp : Sp) : Prop where
  ex : ∃ f fd, mg x = some (.ref f) ∧ PySem.W.keepIn K (.ref f) = true ∧ FnOk P w K mg base CX k f fd ps sp ∧ Binds K fd ps []
/-- a method of the class at C -/
structure MethOk (P : Program) (w : World) (K : PySem.W.Frag) (mg : Str → Option Value) (base : Heap) (CX : CXT) (k : Nat) (C : Addr) (m : Str) (ps : List Str) (sp : Sp) : Prop where
  ex : ∃ f fd, Meth K C m f ∧ FnOk P w K mg base CX k f fd ps sp ∧ Binds K fd ps []
/-- a class that is made by its __init__ -/
structure MakeOk (P : Program) (w : World) (K : PySem.W.Frag) (mg : Str → Option Value) (base : Heap) (CX : CXT) (k : Nat) (C : Addr) (x : Str) (ps : List Str) (sp : Sp) : Prop where
  ex : ∃ f fd, mg x = some (.ref C) ∧ Mk K C f ∧ FnOk P w K mg base CX k f fd ps sp ∧ Binds K fd ps []
theorem CallOk.mono {P : Program} {w : World} {K : PySem.W.Frag} {mg : Str → Option Value} {base : Heap} {CX : CXT} {j k : Nat} {x : Str} {ps : List Str} {sp : Sp} (G : CallOk P w K mg base CX j x ps sp) (h : j ≤ k) : CallOk P w K mg base CX k x ps sp :=
  let ⟨f, fd, a, b, F, c⟩ := G.ex; ⟨f, fd, a, b, F.mono h, c⟩
theorem MethOk.mono {P : Program} {w : World} {K : PySem.W.Frag} {mg : Str → Option Value} {base : Heap} {CX : CXT} {j k : Nat} {C : Addr} {m : Str} {ps : List Str} {sp : Sp} (G : MethOk P w K mg base CX j C m ps sp) (h : j ≤ k) : MethOk P w K mg base CX k C m ps sp :=
  let ⟨f, fd, a, F, c⟩ := G.ex; ⟨f, fd, a, F.mono h, c⟩
/-- o.m(..), o an instance of the class at C with the fields ks -/
def tMth (C : Addr) (ks : List Str) (sp : Sp) (E : XK) (to : TE) (t : TA) : TE := fun σ H Q => to σ H fun x H1 => ∃ a dx vs, x = .ref a ∧ H1 a = some (.ins C dx (kz ks vs)) ∧ t σ H1 fun us H2 => sp (x :: us) H2 Q E
def tMthS (C : Addr) (ks : List Str) (sp : Sp) (E : L2.St → XK) (to : TE) (t : TA) : TE := fun σ H Q => to σ H fun x H1 => ∃ a dx vs, x = .ref a ∧ H1 a = some (.ins C dx (kz ks vs)) ∧ t σ H1 fun us H2 => sp (x :: us) H2 Q (E σ)
def tCal (sp : Sp) (E : XK) (t : TA) : TE := fun σ H Q => t σ H fun us H1 => sp us H1 Q E
def tMak (C : Addr) (sp : Sp) (E : XK) (t : TA) : TE := fun σ H Q => t σ H fun us H1 => ∀ x dx, H1 x = none → H1 dx = none → dx ≠ x → sp (.ref x :: us) (upd (upd H1 dx (.own x)) x (.ins C dx (kz [] []))) (fun v H2 => v = .non ∧ Q (.ref x) H2) E
section
variable {X : Cx} {CX : CXT} {k : Nat} {C : Addr} {ks ps : List Str} {x m : Str} {sp : Sp} {E : XK} {o e : Expr} {es : List Expr} {to : TE} {t : TA} {p pos apos : Pos}
theorem pe_cal (G : CallOk X.prog X.w X.K X.mg X.base CX k x ps sp) (hr : Room k X.A) (hx : Passes CX X E) (ha : PA X (e :: es) t) (hg : Gl X x := by rfl) (hdb : (x == ("__debug__" : Str)) = false := by decide)
    (he : starEach (e :: es) X.env = (false, eval e X.env) :: starEach es X.env := by rfl) (hpl : (backTo pos (starEach es X.env)).any (·.1) = false := by rfl) : PE X (.Call (.Name x p) (e :: es) [] pos) (tCal sp E t) := by
  obtain ⟨f, fd, hm, hk, F, hb⟩ := G.ex
  exact pe_imp (pe_call F hr hg hm hk hb .nil hx (pa_mono ha) hdb he hpl) fun σ H Q h => ⟨_, h, fun v H1 q => by show sp (v ++ []) H1 Q E; rw [List.append_nil]; exact q⟩
theorem pe_cal0 (G : CallOk X.prog X.w X.K X.mg X.base CX k x ps sp) (hr : Room k X.A) (hx : Passes CX X E) (hg : Gl X x := by rfl) (hdb : (x == ("__debug__" : Str)) = false := by decide) : PE X (.Call (.Name x p) [] [] pos) (tCal sp E tNil) := by
  obtain ⟨f, fd, hm, hk, F, hb⟩ := G.ex
  exact pe_imp (pe_call0 F hr hg hm hk hb .nil hx hdb) fun σ H Q h => h
theorem pe_mak (G : MakeOk X.prog X.w X.K X.mg X.base CX k C x ps sp) (hr : Room (k + 1) X.A) (hx : Passes CX X E) (ha : PA X (e :: es) t) (hg : Gl X x := by rfl) (hdb : (x == ("__debug__" : Str)) = false := by decide)
    (he : starEach (e :: es) X.env = (false, eval e X.env) :: starEach es X.env := by rfl) (hpl : (backTo pos (starEach es X.env)).any (·.1) = false := by rfl) : PE X (.Call (.Name x p) (e :: es) [] pos) (tMak C sp E t) := by
  obtain ⟨f, fd, hm, M, F, hb⟩ := G.ex
  exact pe_imp (pe_make M F hr hg hm hb .nil hx (pa_mono ha) hdb he hpl) fun σ H Q h => ⟨_, h, fun v H1 q x dx a b c => by rw [List.append_nil]; exact q x dx a b c⟩
theorem pe_mak0 (G : MakeOk X.prog X.w X.K X.mg X.base CX k C x ps sp) (hr : Room (k + 1) X.A) (hx : Passes CX X E) (hg : Gl X x := by rfl) (hdb : (x == ("__debug__" : Str)) = false := by decide) : PE X (.Call (.Name x p) [] [] pos) (tMak C sp E tNil) := by
  obtain ⟨f, fd, hm, M, F, hb⟩ := G.ex
  exact pe_imp (pe_make0 M F hr hg hm hb .nil hx hdb) fun σ H Q h => h
theorem pe_mth {pl : Sem Bool} (c : Cls X.K C) (hn : noK ks m = true) (G : MethOk X.prog X.w X.K X.mg X.base CX k C m ps sp) (hr : Room k X.A) (hx : Passes CX X E) (ho : PE X o to) (ha : PA X (e :: es) t)
    (hst : starEach (e :: es) X.env = (false, eval e X.env) :: starEach es X.env := by rfl) (hpl : (backTo pos (starEach es X.env)).any (·.1) = false := by rfl)
    (ht : eval (.Call (.Attribute o m apos) (e :: es) [] pos) X.env = (do
      let ov ← eval o X.env
      standAt apos.atName
      let (f, first) ← holding [ov] (getMethod ov m pl)
      callWith pos f first (backTo pos (starEach (e :: es) X.env)) (backToKw pos (keywordEach [] X.env))) := by rfl) :
    PE X (.Call (.Attribute o m apos) (e :: es) [] pos) (tMth C ks sp E to t) := by
  obtain ⟨f, fd, M, F, hb⟩ := G.ex
  exact pe_imp (pe_meth (pe_mono ho) c M F hr hb .nil hx (pa_mono ha) hst hpl ht) fun σ H Q h => ⟨_, h, fun x H1 ⟨a, dx, vs, e1, e2, q⟩ => ⟨a, dx, _, e1, e2, kz_no hn, _, q, fun us H2 q2 => by show sp (x :: (us ++ [])) H2 Q E; rw [List.append_nil]; exact q2⟩⟩
theorem pe_mth0 {pl : Sem Bool} (c : Cls X.K C) (hn : noK ks m = true) (G : MethOk X.prog X.w X.K X.mg X.base CX k C m ps sp) (hr : Room k X.A) (hx : Passes CX X E) (ho : PE X o to)
    (ht : eval (.Call (.Attribute o m apos) [] [] pos) X.env = (do
      let ov ← eval o X.env
      standAt apos.atName
      let (f, first) ← holding [ov] (getMethod ov m pl)
      callWith pos f first (backTo pos (starEach [] X.env)) (backToKw pos (keywordEach [] X.env))) := by rfl) :
    PE X (.Call (.Attribute o m apos) [] [] pos) (tMth C ks sp E to tNil) := by
  obtain ⟨f, fd, M, F, hb⟩ := G.ex
  exact pe_imp (pe_meth0 (pe_mono ho) c M F hr hb .nil hx ht) fun σ H Q h => ⟨_, h, fun x H1 ⟨a, dx, vs, e1, e2, q⟩ => ⟨a, dx, _, e1, e2, kz_no hn, q⟩⟩
/-- a module's whole number -/
theorem pe_gi {i : Int} (h : ∃ t, X.mg x = some (.int i t)) (hg : Gl X x := by rfl) (hd : (x == ("__debug__" : Str)) = false := by decide) : PE X (.Name x pos) (tC (.int i)) := by
  obtain ⟨t, ht⟩ := h
  exact pe_glob hg ht ⟨t, rfl⟩ hd
theorem pe_gr {a : Addr} (h : X.mg x = some (.ref a)) (hg : Gl X x := by rfl) (hd : (x == ("__debug__" : Str)) = false := by decide) : PE X (.Name x pos) (tC (.ref a)) := pe_glob hg h rfl hd
end
/-! ### rules whose written part is a letter: for what stands within a comprehension -/
section
variable {X : Cx} {K : PySem.W.Frag}
theorem ix_tupK (h : X.K = K := by rfl) : IxR X (rIxT K) := h ▸ ix_tup
theorem ix_listK (h : X.K = K := by rfl) : IxR X (rIxL K) := h ▸ ix_list
theorem op_inK (h : X.K = K := by rfl) : OpR X (compareOp .In) (rIn K false) := h ▸ op_in_seq
def rLenK (K : PySem.W.Frag) : List V → Hp → VK → Prop := fun xs H Q => ∃ p ys, xs = [.ref p] ∧ (SqL K H p ys ∨ SqT K H p ys) ∧ Q (.int ys.length) H
theorem call_lenK (h : X.K = K := by rfl) : CallR X (.builtin "len") (rLenK K) := h ▸ call_len_seq
theorem mt_lcountK (h : X.K = K := by rfl) : MtR X "list.count" (rCntI K) := h ▸ mt_lcount
theorem pe_bmK {T : String} {r : V → List V → Hp → VK → Prop} {e : Expr} {to : TE} {t : TA} (h : X.K = K) (p : PE X e (tBM X.K T r to t)) : PE X e (tBM K T r to t) := h ▸ p
end
end SC
/-! SC1: what the top holds: addresses, facts. -/
namespace SC
open PySem PySem.Spec PyProof.Rows L2

/-- the i-th statement of the program's top -/
def topS (i : Nat) : Stmt := PySem.Challenge.pw_stonecave_s01_answers.main.body.getD i (.Pass ⟨0, 0, 0, 0⟩)
def kCave : List Str := ["wide", "high", "cells", "standing", "points"]
def kTick : List Str := ["wide", "high", "cells", "had", "standing", "points"]
def kGame : List Str := ["caves", "pressed", "left", "length", "held"]
def kDesk : List Str := ["game", "kept"]
/-- the addresses of classes and tuples -/
structure Ad where
  cave : Addr
  tick : Addr
  game : Addr
  refd : Addr
  desk : Addr
  bytes : Addr
  loose : Addr
  falling : Addr
  lyingT : Addr
  ways : Addr
  w0 : Addr
  w1 : Addr
  w2 : Addr
  w3 : Addr
  down : Addr
  manyN : Addr
  withR : Addr
  refI : Addr
/-- a written tuple -/
structure TupAt (K : PySem.W.Frag) (a : Addr) (xs : List V) : Prop where
  ex : ∃ (o : Obj) (its : Array Value) (n : Nat), K.lookup a = some o ∧ o.cls = .type "tuple" ∧ o.dict = none ∧ o.data = .seq its n ∧ its.size ≤ sizeLine ∧ Vals xs its.toList
theorem TupAt.sq {K : PySem.W.Frag} {a : Addr} {xs : List V} (t : TupAt K a xs) {H : Hp} : SqT K H a xs :=
  let ⟨o, its, n, h1, h2, _, h4, h5, h6⟩ := t.ex; .inr ⟨o, its, n, h1, h2, h4, h5, h6⟩
theorem TupAt.ty {K : PySem.W.Frag} {a : Addr} {xs : List V} (t : TupAt K a xs) {H : Hp} : tyV K "tuple" (.ref a) H :=
  let ⟨o, _, _, h1, h2, h3, _⟩ := t.ex; .inr (.inl ⟨rfl, o, h1, h2, h3⟩)
structure DefG (K : PySem.W.Frag) (mg : Str → Option Value) (x : Str) (st : Stmt) : Prop where
  ex : ∃ f fd, mg x = some (.ref f) ∧ PySem.W.keepIn K (.ref f) = true ∧ Fun K x x st f fd
structure DefM (K : PySem.W.Frag) (C : Addr) (m qual : Str) (st : Stmt) : Prop where
  ex : ∃ f fd, Meth K C m f ∧ Fun K m qual st f fd
structure DefI (K : PySem.W.Frag) (mg : Str → Option Value) (C : Addr) (x qual : Str) (st : Stmt) : Prop where
  ex : ∃ f fd, mg x = some (.ref C) ∧ Mk K C f ∧ Fun K "__init__" qual st f fd
/-- all that the top holds -/
structure Txt (K : PySem.W.Frag) (mg : Str → Option Value) (A : Ad) : Prop where
  i_NOTHING : ∃ t, mg "NOTHING" = some (.int (0) t)
  i_EARTH : ∃ t, mg "EARTH" = some (.int (1) t)
  i_WALL : ∃ t, mg "WALL" = some (.int (2) t)
  i_STONE : ∃ t, mg "STONE" = some (.int (3) t)
  i_FALLING_STONE : ∃ t, mg "FALLING_STONE" = some (.int (4) t)
  i_GEM : ∃ t, mg "GEM" = some (.int (5) t)
  i_FALLING_GEM : ∃ t, mg "FALLING_GEM" = some (.int (6) t)
  i_PLAYER : ∃ t, mg "PLAYER" = some (.int (7) t)
  i_FIRST_MONSTER : ∃ t, mg "FIRST_MONSTER" = some (.int (8) t)
  i_LAST_MONSTER : ∃ t, mg "LAST_MONSTER" = some (.int (11) t)
  i_EXIT : ∃ t, mg "EXIT" = some (.int (12) t)
  i_LINE_END : ∃ t, mg "LINE_END" = some (.int (10) t)
  i_MOST_WIDE : ∃ t, mg "MOST_WIDE" = some (.int (20) t)
  i_MOST_HIGH : ∃ t, mg "MOST_HIGH" = some (.int (14) t)
  i_GOES_ON : ∃ t, mg "GOES_ON" = some (.int (0) t)
  i_WON : ∃ t, mg "WON" = some (.int (1) t)
  i_LOST : ∃ t, mg "LOST" = some (.int (2) t)
  i_FOR_GEM : ∃ t, mg "FOR_GEM" = some (.int (10) t)
  i_FOR_MONSTER : ∃ t, mg "FOR_MONSTER" = some (.int (20) t)
  i_FOR_EXIT : ∃ t, mg "FOR_EXIT" = some (.int (100) t)
  i_NOT_AS_TOLD : ∃ t, mg "NOT_AS_TOLD" = some (.int (-1) t)
  i_NONE_THERE : ∃ t, mg "NONE_THERE" = some (.int (-2) t)
  i_TOO_MANY : ∃ t, mg "TOO_MANY" = some (.int (-5) t)
  i_ALIKE : ∃ t, mg "ALIKE" = some (.int (-6) t)
  i_FAULT : ∃ t, mg "FAULT" = some (.int (-10) t)
  i_LONGEST : ∃ t, mg "LONGEST" = some (.int (300) t)
  i_MOST_BYTE : ∃ t, mg "MOST_BYTE" = some (.int (255) t)
  i_MOST_KEY : ∃ t, mg "MOST_KEY" = some (.int (4) t)
  i_MOST_PARTS : ∃ t, mg "MOST_PARTS" = some (.int (1000) t)
  i_MOST_TICKS : ∃ t, mg "MOST_TICKS" = some (.int (400) t)
  i_FIRST_LENGTH : ∃ t, mg "FIRST_LENGTH" = some (.int (10) t)
  i_MOST_LENGTH : ∃ t, mg "MOST_LENGTH" = some (.int (100) t)
  i_MOST_KEPT : ∃ t, mg "MOST_KEPT" = some (.int (9) t)
  i_MOST_PRESSED : ∃ t, mg "MOST_PRESSED" = some (.int (100) t)
  i_SORTS : ∃ t, mg "SORTS" = some (.int (13) t)
  g_BYTES : mg "BYTES" = some (.ref A.bytes)
  g_LOOSE : mg "LOOSE" = some (.ref A.loose)
  g_FALLING : mg "FALLING" = some (.ref A.falling)
  g_LYING : mg "LYING" = some (.ref A.lyingT)
  g_WAYS : mg "WAYS" = some (.ref A.ways)
  g_DOWN : mg "DOWN" = some (.ref A.down)
  g_MANY_NUMBERS : mg "MANY_NUMBERS" = some (.ref A.manyN)
  g_WITH_ROW : mg "WITH_ROW" = some (.ref A.withR)
  t_BYTES : TupAt K A.bytes [.int 32, .int 58, .int 35, .int 111, .int 79, .int 42, .int 43, .int 64, .int 62, .int 118, .int 60, .int 94, .int 69]
  t_LOOSE : TupAt K A.loose [.int 3, .int 4, .int 5, .int 6]
  t_FALLING : TupAt K A.falling [.int 4, .int 6]
  t_LYING : TupAt K A.lyingT [.int 3, .int 5]
  t_WAYS : TupAt K A.ways [.ref A.w0, .ref A.w1, .ref A.w2, .ref A.w3]
  t_DOWN : TupAt K A.down [.int 0, .int 1]
  t_MANY_NUMBERS : TupAt K A.manyN [.int 0, .int 1, .int 1, .int 1, .int 1, .int 1, .int 0, .int 2, .int 1, .int 1, .int 0, .int 0, .int 0, .int 1]
  t_WITH_ROW : TupAt K A.withR [.int 0, .int 11]
  t_w0 : TupAt K A.w0 [.int 1, .int 0]
  t_w1 : TupAt K A.w1 [.int 0, .int 1]
  t_w2 : TupAt K A.w2 [.int (-1), .int 0]
  t_w3 : TupAt K A.w3 [.int 0, .int (-1)]
  b_len : mg "len" = none
  b_range : mg "range" = none
  b_any : mg "any" = none
  b_all : mg "all" = none
  b_list : mg "list" = none
  b_int : mg "int" = none
  b_min : mg "min" = none
  b_enumerate : mg "enumerate" = none
  b_zip : mg "zip" = none
  b_ValueError : mg "ValueError" = none
  cCave : Cls K A.cave
  nCave_wide : NoAttr K A.cave "wide"
  nCave_high : NoAttr K A.cave "high"
  nCave_cells : NoAttr K A.cave "cells"
  nCave_standing : NoAttr K A.cave "standing"
  nCave_points : NoAttr K A.cave "points"
  cTick : Cls K A.tick
  nTick_wide : NoAttr K A.tick "wide"
  nTick_high : NoAttr K A.tick "high"
  nTick_cells : NoAttr K A.tick "cells"
  nTick_had : NoAttr K A.tick "had"
  nTick_standing : NoAttr K A.tick "standing"
  nTick_points : NoAttr K A.tick "points"
  cGame : Cls K A.game
  nGame_caves : NoAttr K A.game "caves"
  nGame_pressed : NoAttr K A.game "pressed"
  nGame_left : NoAttr K A.game "left"
  nGame_length : NoAttr K A.game "length"
  nGame_held : NoAttr K A.game "held"
  cDesk : Cls K A.desk
  nDesk_game : NoAttr K A.desk "game"
  nDesk_kept : NoAttr K A.desk "kept"
  d_Cave : DefI K mg A.cave "Cave" "Cave.__init__" (inClass (topS 17) 0)
  d_Cave_gems : DefM K A.cave "gems" "Cave.gems" (inClass (topS 17) 1)
  d_Cave_written : DefM K A.cave "written" "Cave.written" (inClass (topS 17) 2)
  d_Cave_is_like : DefM K A.cave "is_like" "Cave.is_like" (inClass (topS 17) 3)
  d_rows_in : DefG K mg "rows_in" (topS 18)
  d_fault_of : DefG K mg "fault_of" (topS 19)
  d_cave_of : DefG K mg "cave_of" (topS 20)
  d_first_cave : DefG K mg "first_cave" (topS 21)
  d_fallen : DefG K mg "fallen" (topS 33)
  d_lying : DefG K mg "lying" (topS 34)
  d_is_monster : DefG K mg "is_monster" (topS 35)
  d_Tick : DefI K mg A.tick "Tick" "Tick.__init__" (inClass (topS 36) 0)
  d_Tick_at : DefM K A.tick "at" "Tick.at" (inClass (topS 36) 1)
  d_Tick_put : DefM K A.tick "put" "Tick.put" (inClass (topS 36) 2)
  d_Tick_arrive : DefM K A.tick "arrive" "Tick.arrive" (inClass (topS 36) 3)
  d_Tick_go : DefM K A.tick "go" "Tick.go" (inClass (topS 36) 4)
  d_Tick_have_gems : DefM K A.tick "have_gems" "Tick.have_gems" (inClass (topS 36) 5)
  d_Tick_push : DefM K A.tick "push" "Tick.push" (inClass (topS 36) 6)
  d_Tick_play : DefM K A.tick "play" "Tick.play" (inClass (topS 36) 7)
  d_Tick_roll : DefM K A.tick "roll" "Tick.roll" (inClass (topS 36) 8)
  d_Tick_fall : DefM K A.tick "fall" "Tick.fall" (inClass (topS 36) 9)
  d_Tick_walk : DefM K A.tick "walk" "Tick.walk" (inClass (topS 36) 10)
  d_Tick_turn : DefM K A.tick "turn" "Tick.turn" (inClass (topS 36) 11)
  d_ticked : DefG K mg "ticked" (topS 37)
  d_Game : DefI K mg A.game "Game" "Game.__init__" (inClass (topS 39) 0)
  d_Game_now : DefM K A.game "now" "Game.now" (inClass (topS 39) 1)
  d_Game_many : DefM K A.game "many" "Game.many" (inClass (topS 39) 2)
  d_Game_goes_on : DefM K A.game "goes_on" "Game.goes_on" (inClass (topS 39) 3)
  d_Game_stood : DefM K A.game "stood" "Game.stood" (inClass (topS 39) 4)
  d_Game_stands : DefM K A.game "stands" "Game.stands" (inClass (topS 39) 5)
  d_Game_tick : DefM K A.game "tick" "Game.tick" (inClass (topS 39) 6)
  d_Game_many_due : DefM K A.game "many_due" "Game.many_due" (inClass (topS 39) 7)
  d_Game_frame : DefM K A.game "frame" "Game.frame" (inClass (topS 39) 8)
  d_Game_take_length : DefM K A.game "take_length" "Game.take_length" (inClass (topS 39) 9)
  d_Game_back : DefM K A.game "back" "Game.back" (inClass (topS 39) 10)
  d_Game_copied : DefM K A.game "copied" "Game.copied" (inClass (topS 39) 11)
  d_Game_parts_from : DefM K A.game "parts_from" "Game.parts_from" (inClass (topS 39) 12)
  d_refuse : DefG K mg "refuse" (topS 57)
  d_counted : DefG K mg "counted" (topS 58)
  d_Desk : DefI K mg A.desk "Desk" "Desk.__init__" (inClass (topS 59) 0)
  d_Desk_cave : DefM K A.desk "cave" "Desk.cave" (inClass (topS 59) 1)
  d_Desk_hold : DefM K A.desk "hold" "Desk.hold" (inClass (topS 59) 2)
  d_Desk_need_ticks : DefM K A.desk "need_ticks" "Desk.need_ticks" (inClass (topS 59) 3)
  d_Desk_frame : DefM K A.desk "frame" "Desk.frame" (inClass (topS 59) 4)
  d_Desk_speed : DefM K A.desk "speed" "Desk.speed" (inClass (topS 59) 5)
  d_Desk_save : DefM K A.desk "save" "Desk.save" (inClass (topS 59) 6)
  d_Desk_load : DefM K A.desk "load" "Desk.load" (inClass (topS 59) 7)
  d_Desk_place : DefM K A.desk "place" "Desk.place" (inClass (topS 59) 8)
  d_Desk_seen : DefM K A.desk "seen" "Desk.seen" (inClass (topS 59) 9)
  d_Desk_back : DefM K A.desk "back" "Desk.back" (inClass (topS 59) 10)
  d_Desk_play : DefM K A.desk "play" "Desk.play" (inClass (topS 59) 11)
  d_Desk_differ : DefM K A.desk "differ" "Desk.differ" (inClass (topS 59) 12)
  d_Desk_of_one : DefM K A.desk "of_one" "Desk.of_one" (inClass (topS 59) 13)
  d_Desk_done : DefM K A.desk "done" "Desk.done" (inClass (topS 59) 14)
  d_Desk_answer : DefM K A.desk "answer" "Desk.answer" (inClass (topS 59) 15)
  d_answers : DefG K mg "answers" (topS 63)
  oex : OexC K A.refd
  xf : XfC K A.refd
  veI : PySem.W.findCls K (.type "ValueError") (.type "type") "__init__" = some (.val (.builtin "ValueError.__init__"))
  nRefused_number : PySem.W.findIn K (.ref A.refd) "number" = some none
  gRefused : mg "Refused" = some (.ref A.refd)
  iRefused : PySem.W.findIn K (.ref A.refd) "__init__" = some (some (.ref A.refI))
  tRefused : PySem.W.typeIn K (.ref A.refI) = some (.type "function")
  eRefused : PySem.W.exmOne K (.ref A.refd) (.ref A.refd) = some true
  d_Refused : ∃ fd, Fun K "__init__" "Refused.__init__" (inClass (topS 56) 0) A.refI fd
section
variable {P : Program} {w : World} {K : PySem.W.Frag} {mg : Str → Option Value} {base : Heap} {x m qual : Str} {C : Addr} {st : Stmt} {N ps : List Str} {k : Nat} {sp : Sp}
abbrev BindsAs (x qual : Str) (st : Stmt) (ps : List Str) : Prop := ∀ (kV doc pm : Value) (an : Option Addr) (cdv ct : Value) (us : List Value), us.length = ps.length → bindArgs (PySem.W.fnOf x qual (defArgs st) (defBody st) (defScope st) .none kV doc pm an cdv ct) ⟨us, []⟩ = pure (ps.zip us)
abbrev BodyAs (P : Program) (w : World) (K : PySem.W.Frag) (mg : Str → Option Value) (base : Heap) (qual : Str) (st : Stmt) (N : List Str) (k : Nat) (sp : Sp) : Prop := ∀ (f : Addr) (cdv : Value) (A : Around) (outer : List Env) (s : Shared) (H : Hp) (vs : List V) (Q : VK) (E : XK), Room k (A.deeper (envOfC qual (defScope st) s.heap.objs.size f cdv)) → sp vs H Q E →
      ∃ t, PSs (cxOf CX0 P w K mg base N qual (defScope st) f cdv A outer s H E).nox (defBody st) t ∧ t { nx := fun _ H' => Q .non H', rt := Q } (start N vs) H
abbrev BodyX (P : Program) (w : World) (K : PySem.W.Frag) (mg : Str → Option Value) (base : Heap) (qual : Str) (st : Stmt) (N : List Str) (k : Nat) (sp : Sp) : Prop := ∀ (f : Addr) (cdv : Value) (A : Around) (outer : List Env) (s : Shared) (H : Hp) (vs : List V) (Q : VK) (E : XK), Room k (A.deeper (envOfC qual (defScope st) s.heap.objs.size f cdv)) → sp vs H Q E →
      ∃ t, PSs (cxOf (L2.CX P w) P w K mg base N qual (defScope st) f cdv A outer s H E) (defBody st) t ∧ t { nx := fun _ H' => Q .non H', rt := Q } (start N vs) H
theorem DefG.ok (D : DefG K mg x st) (S : FnScope N ps (defScope st)) (len : ∀ vs H Q E, sp vs H Q E → vs.length = ps.length) (b : BindsAs x x st ps) (h : BodyAs P w K mg base x st N k sp) : CallOk P w K mg base CX0 (k + 1) x ps sp :=
  let ⟨f, fd, h1, h2, F⟩ := D.ex; ⟨f, fd, h1, h2, F.ok S len (fun cdv A outer s H vs Q E hr q => h f cdv A outer s H vs Q E hr q), F.binds b⟩
theorem DefG.okX (D : DefG K mg x st) (S : FnScope N ps (defScope st)) (len : ∀ vs H Q E, sp vs H Q E → vs.length = ps.length) (b : BindsAs x x st ps) (h : BodyX P w K mg base x st N k sp) : CallOk P w K mg base (L2.CX P w) (k + 1) x ps sp :=
  let ⟨f, fd, h1, h2, F⟩ := D.ex; ⟨f, fd, h1, h2, F.okX S len (fun cdv A outer s H vs Q E hr q => h f cdv A outer s H vs Q E hr q), F.binds b⟩
theorem DefM.ok (D : DefM K C m qual st) (S : FnScope N ps (defScope st)) (len : ∀ vs H Q E, sp vs H Q E → vs.length = ps.length) (b : BindsAs m qual st ps) (h : BodyAs P w K mg base qual st N k sp) : MethOk P w K mg base CX0 (k + 1) C m ps sp :=
  let ⟨f, fd, h1, F⟩ := D.ex; ⟨f, fd, h1, F.ok S len (fun cdv A outer s H vs Q E hr q => h f cdv A outer s H vs Q E hr q), F.binds b⟩
theorem DefM.okX (D : DefM K C m qual st) (S : FnScope N ps (defScope st)) (len : ∀ vs H Q E, sp vs H Q E → vs.length = ps.length) (b : BindsAs m qual st ps) (h : BodyX P w K mg base qual st N k sp) : MethOk P w K mg base (L2.CX P w) (k + 1) C m ps sp :=
  let ⟨f, fd, h1, F⟩ := D.ex; ⟨f, fd, h1, F.okX S len (fun cdv A outer s H vs Q E hr q => h f cdv A outer s H vs Q E hr q), F.binds b⟩
theorem DefI.ok (D : DefI K mg C x qual st) (S : FnScope N ps (defScope st)) (len : ∀ vs H Q E, sp vs H Q E → vs.length = ps.length) (b : BindsAs "__init__" qual st ps) (h : BodyAs P w K mg base qual st N k sp) : MakeOk P w K mg base CX0 (k + 1) C x ps sp :=
  let ⟨f, fd, h1, h2, F⟩ := D.ex; ⟨f, fd, h1, h2, F.ok S len (fun cdv A outer s H vs Q E hr q => h f cdv A outer s H vs Q E hr q), F.binds b⟩
end
/-! ### words of the heap -/
/-- all that stood stands, but at W -/
def Fr (W : List Addr) (H H' : Hp) : Prop := ∀ b o, H b = some o → b ∉ W → H' b = some o
theorem Fr.refl (W : List Addr) (H : Hp) : Fr W H H := fun _ _ h _ => h
theorem Fr.trans {W : List Addr} {H H1 H2 : Hp} (a : Fr W H H1) (b : Fr W H1 H2) : Fr W H H2 := fun p o h n => b p o (a p o h n) n
theorem Fr.mono {W W' : List Addr} {H H' : Hp} (a : Fr W H H') (h : ∀ b ∈ W, b ∈ W') : Fr W' H H' := fun p o q n => a p o q fun z => n (h p z)
theorem Fr.same {W : List Addr} {H H' : Hp} (a : Same H H') : Fr W H H' := fun p o h _ => a p o h
theorem Fr.to {H H' : Hp} (a : Fr [] H H') : Same H H' := fun p o h => a p o h (by simp)
theorem Fr.upd {W : List Addr} {H H' : Hp} {a : Addr} {o : HO} (f : Fr W H H') (h : a ∈ W) : Fr W H (upd H' a o) := fun p u q n => by
  rw [upd_ne fun z => n (by rw [z]; exact h)]
  exact f p u q n
theorem same_new {H : Hp} {p : Addr} {o : HO} (h : H p = none) : Same H (upd H p o) := fun b u q => by
  rw [upd_ne (ne_of_none q h)]
  exact q
theorem same_up {H H' : Hp} {p : Addr} {o : HO} (s : Same H H') (h : H p = none) : Same H (upd H' p o) := fun b u q => by
  rw [upd_ne (ne_of_none q h)]
  exact s b u q
/-- what is not in own -/
def hide (own : List Addr) (H : Hp) : Hp := fun b => if b ∈ own then none else H b
theorem hide_some {own : List Addr} {H : Hp} {b : Addr} {o : HO} : hide own H b = some o ↔ b ∉ own ∧ H b = some o := by
  unfold hide
  by_cases h : b ∈ own
  · simp [h]
  · simp [h]
theorem hide_le {own : List Addr} {H : Hp} : Same (hide own H) H := fun _ _ h => (hide_some.mp h).2
/-- new owned places are old ones, or were free -/
def Sub (own : List Addr) (H : Hp) (own' : List Addr) : Prop := ∀ b ∈ own', b ∈ own ∨ H b = none
theorem hide_same {W own own' : List Addr} {H H' : Hp} (f : Fr W H H') (hw : ∀ b ∈ W, b ∈ own) (s : Sub own H own') : Same (hide own H) (hide own' H') := fun b o h => by
  obtain ⟨h1, h2⟩ := hide_some.mp h
  refine hide_some.mpr ⟨fun z => ?_, f b o h2 fun z => h1 (hw b z)⟩
  rcases s b z with q | q
  · exact h1 q
  · rw [h2] at q; cases q
/-! ### ifs -/
theorem if_y {c : Bool} {A B : Prop} (hc : c = true) (h : A) : if c = true then A else B := by rw [if_pos hc]; exact h
theorem if_n {c : Bool} {A B : Prop} (hc : c = false) (h : B) : if c = true then A else B := by rw [hc, if_neg Bool.false_ne_true]; exact h
theorem if_d {p A B : Prop} [Decidable p] (h1 : p → A) (h2 : ¬ p → B) : if decide p = true then A else B := by
  by_cases c : p
  · rw [if_pos (decide_eq_true c)]; exact h1 c
  · rw [if_neg (by rw [decide_eq_false c]; exact Bool.false_ne_true)]; exact h2 c
theorem if_b {c : Bool} {A B : Prop} (h1 : c = true → A) (h2 : c = false → B) : if c = true then A else B := by
  cases c with
  | true => exact if_y rfl (h1 rfl)
  | false => exact if_n rfl (h2 rfl)
end SC
/-! SC2: ticks, the small defs. -/
namespace SC
open PySem PySem.Spec PyProof.Rows L2
section
variable {P : Program} {w : World} {K : PySem.W.Frag} {mg : Str → Option Value} {base : Heap} {A : Ad}
theorem in2 (v a b : Nat) : inV (.int (v : Int)) [.int (a : Int), .int (b : Int)] = decide (v = a ∨ v = b) := by
  show (((a : Int) == (v : Int)) || (((b : Int) == (v : Int)) || false)) = _
  rw [Bool.eq_iff_iff]
  simp only [Bool.or_eq_true, beq_iff_eq, decide_eq_true_eq, Bool.or_false]
  omega
theorem q_of {Q : VK} {v u : V} {H : Hp} (h : Q v H) (e : u = v) : Q u H := by rw [e]; exact h
def fallenM (v : Nat) : Nat := if v = 3 ∨ v = 4 then 4 else 6
def lyingM (v : Nat) : Nat := if v = 3 ∨ v = 4 then 3 else 5
def monsterM (v : Nat) : Bool := decide (8 ≤ v ∧ v ≤ 11)
def spFallen : Sp := fun vs H Q _ => ∃ v : Nat, vs = [.int v] ∧ ∀ H', Same H H' → Q (.int (fallenM v)) H'
def spLying : Sp := fun vs H Q _ => ∃ v : Nat, vs = [.int v] ∧ ∀ H', Same H H' → Q (.int (lyingM v)) H'
def spMonster : Sp := fun vs H Q _ => ∃ v : Nat, vs = [.int v] ∧ Q (.bl (monsterM v)) H
theorem sc_fallen : FnScope ["thing"] ["thing"] (defScope (topS 33)) := ⟨rfl, rfl, rfl, by decide +kernel, rfl, by decide +kernel, by decide +kernel⟩
theorem sc_lying : FnScope ["thing"] ["thing"] (defScope (topS 34)) := ⟨rfl, rfl, rfl, by decide +kernel, rfl, by decide +kernel, by decide +kernel⟩
theorem sc_is_monster : FnScope ["thing"] ["thing"] (defScope (topS 35)) := ⟨rfl, rfl, rfl, by decide +kernel, rfl, by decide +kernel, by decide +kernel⟩
theorem g_fallen (T : Txt K mg A) : CallOk P w K mg base CX0 1 "fallen" ["thing"] spFallen := by
  refine T.d_fallen.ok (N := ["thing"]) sc_fallen (fun vs H Q E h => (by first | (obtain ⟨rfl, _⟩ := h; rfl) | (obtain ⟨_, rfl, _⟩ := h; rfl) | (obtain ⟨_, _, rfl, _⟩ := h; rfl) | (obtain ⟨_, _, _, rfl, _⟩ := h; rfl) | (obtain ⟨_, _, _, _, rfl, _⟩ := h; rfl) | (obtain ⟨_, _, _, _, _, rfl, _⟩ := h; rfl) | (obtain ⟨_, _, _, _, _, _, rfl, _⟩ := h; rfl) | (obtain ⟨_, _, _, _, _, _, _, rfl, _⟩ := h; rfl) | (obtain ⟨_, _, _, _, _, _, _, _, rfl, _⟩ := h; rfl) | (obtain ⟨_, _, _, _, _, _, _, _, _, rfl, _⟩ := h; rfl) | (obtain ⟨_, _, _, _, _, _, _, _, _, _, rfl, _⟩ := h; rfl) | (obtain ⟨_, _, _, _, _, _, _, _, _, _, _, rfl, _⟩ := h; rfl) | (obtain ⟨_, _, _, _, _, _, _, _, _, _, _, _, rfl, _⟩ := h; rfl) | (obtain ⟨_, _, _, _, _, _, _, _, _, _, _, _, _, rfl, _⟩ := h; rfl) | (obtain ⟨rfl⟩ := h; rfl) | (obtain ⟨_, rfl⟩ := h; rfl) | (obtain ⟨_, _, rfl⟩ := h; rfl) | (obtain ⟨_, _, _, rfl⟩ := h; rfl) | (obtain ⟨_, _, _, _, rfl⟩ := h; rfl) | (obtain ⟨_, _, _, _, _, rfl⟩ := h; rfl) | (obtain ⟨_, _, _, _, _, _, rfl⟩ := h; rfl) | (obtain ⟨_, _, _, _, _, _, _, rfl⟩ := h; rfl) | (obtain ⟨_, _, _, _, _, _, _, _, rfl⟩ := h; rfl) | (obtain ⟨_, _, _, _, _, _, _, _, _, rfl⟩ := h; rfl) | (obtain ⟨_, _, _, _, _, _, _, _, _, _, rfl⟩ := h; rfl) | (obtain ⟨_, _, _, _, _, _, _, _, _, _, _, rfl⟩ := h; rfl) | (obtain ⟨_, _, _, _, _, _, _, _, _, _, _, _, rfl⟩ := h; rfl) | (obtain ⟨_, _, _, _, _, _, _, _, _, _, _, _, _, rfl⟩ := h; rfl))) (fun _ _ _ _ _ _ us hl => match us, hl with | [_], _ => rfl) (fun f cdv A0 outer s H vs Q E hr h => ⟨_, (pss_cons (ps_if (pt_cmpR op_in_seq (pv 0) (pe_tup (pa_cons (pe_gi T.i_STONE) (pa_cons (pe_gi T.i_FALLING_STONE) pa_nil))) (by rfl)) (pss_one (ps_ret (pe_gi T.i_FALLING_STONE))) pss_nil)
      (pss_one (ps_ret (pe_gi T.i_FALLING_GEM)))), ?_⟩)
  obtain ⟨v, rfl, k⟩ := h
  refine ⟨_, rfl, (by show 2 ≤ sizeLine; decide), fun p hp => ⟨p, _, rfl, .inr (SqT.of upd_same), rfl, rfl, _, rfl, ?_⟩⟩
  rw [show (if false = true then !inV (.int (v : Int)) [.int 3, .int 4] else inV (.int (v : Int)) [.int 3, .int 4]) = decide (v = 3 ∨ v = 4) from in2 v 3 4]
  refine if_d (fun c => ?_) fun c => ?_
  · have q := k _ (same_new (o := .tup [.int 3, .int 4]) hp)
    rw [fallenM, if_pos c] at q
    exact q
  · have q := k _ (same_new (o := .tup [.int 3, .int 4]) hp)
    rw [fallenM, if_neg c] at q
    exact q
theorem g_lying (T : Txt K mg A) : CallOk P w K mg base CX0 1 "lying" ["thing"] spLying := by
  refine T.d_lying.ok (N := ["thing"]) sc_lying (fun vs H Q E h => (by first | (obtain ⟨rfl, _⟩ := h; rfl) | (obtain ⟨_, rfl, _⟩ := h; rfl) | (obtain ⟨_, _, rfl, _⟩ := h; rfl) | (obtain ⟨_, _, _, rfl, _⟩ := h; rfl) | (obtain ⟨_, _, _, _, rfl, _⟩ := h; rfl) | (obtain ⟨_, _, _, _, _, rfl, _⟩ := h; rfl) | (obtain ⟨_, _, _, _, _, _, rfl, _⟩ := h; rfl) | (obtain ⟨_, _, _, _, _, _, _, rfl, _⟩ := h; rfl) | (obtain ⟨_, _, _, _, _, _, _, _, rfl, _⟩ := h; rfl) | (obtain ⟨_, _, _, _, _, _, _, _, _, rfl, _⟩ := h; rfl) | (obtain ⟨_, _, _, _, _, _, _, _, _, _, rfl, _⟩ := h; rfl) | (obtain ⟨_, _, _, _, _, _, _, _, _, _, _, rfl, _⟩ := h; rfl) | (obtain ⟨_, _, _, _, _, _, _, _, _, _, _, _, rfl, _⟩ := h; rfl) | (obtain ⟨_, _, _, _, _, _, _, _, _, _, _, _, _, rfl, _⟩ := h; rfl) | (obtain ⟨rfl⟩ := h; rfl) | (obtain ⟨_, rfl⟩ := h; rfl) | (obtain ⟨_, _, rfl⟩ := h; rfl) | (obtain ⟨_, _, _, rfl⟩ := h; rfl) | (obtain ⟨_, _, _, _, rfl⟩ := h; rfl) | (obtain ⟨_, _, _, _, _, rfl⟩ := h; rfl) | (obtain ⟨_, _, _, _, _, _, rfl⟩ := h; rfl) | (obtain ⟨_, _, _, _, _, _, _, rfl⟩ := h; rfl) | (obtain ⟨_, _, _, _, _, _, _, _, rfl⟩ := h; rfl) | (obtain ⟨_, _, _, _, _, _, _, _, _, rfl⟩ := h; rfl) | (obtain ⟨_, _, _, _, _, _, _, _, _, _, rfl⟩ := h; rfl) | (obtain ⟨_, _, _, _, _, _, _, _, _, _, _, rfl⟩ := h; rfl) | (obtain ⟨_, _, _, _, _, _, _, _, _, _, _, _, rfl⟩ := h; rfl) | (obtain ⟨_, _, _, _, _, _, _, _, _, _, _, _, _, rfl⟩ := h; rfl))) (fun _ _ _ _ _ _ us hl => match us, hl with | [_], _ => rfl) (fun f cdv A0 outer s H vs Q E hr h => ⟨_, (pss_cons (ps_if (pt_cmpR op_in_seq (pv 0) (pe_tup (pa_cons (pe_gi T.i_STONE) (pa_cons (pe_gi T.i_FALLING_STONE) pa_nil))) (by rfl)) (pss_one (ps_ret (pe_gi T.i_STONE))) pss_nil)
      (pss_one (ps_ret (pe_gi T.i_GEM)))), ?_⟩)
  obtain ⟨v, rfl, k⟩ := h
  refine ⟨_, rfl, (by show 2 ≤ sizeLine; decide), fun p hp => ⟨p, _, rfl, .inr (SqT.of upd_same), rfl, rfl, _, rfl, ?_⟩⟩
  rw [show (if false = true then !inV (.int (v : Int)) [.int 3, .int 4] else inV (.int (v : Int)) [.int 3, .int 4]) = decide (v = 3 ∨ v = 4) from in2 v 3 4]
  refine if_d (fun c => ?_) fun c => ?_
  · have q := k _ (same_new (o := .tup [.int 3, .int 4]) hp)
    rw [lyingM, if_pos c] at q
    exact q
  · have q := k _ (same_new (o := .tup [.int 3, .int 4]) hp)
    rw [lyingM, if_neg c] at q
    exact q
theorem g_is_monster (T : Txt K mg A) : CallOk P w K mg base CX0 1 "is_monster" ["thing"] spMonster := by
  refine T.d_is_monster.ok (N := ["thing"]) sc_is_monster (fun vs H Q E h => (by first | (obtain ⟨rfl, _⟩ := h; rfl) | (obtain ⟨_, rfl, _⟩ := h; rfl) | (obtain ⟨_, _, rfl, _⟩ := h; rfl) | (obtain ⟨_, _, _, rfl, _⟩ := h; rfl) | (obtain ⟨_, _, _, _, rfl, _⟩ := h; rfl) | (obtain ⟨_, _, _, _, _, rfl, _⟩ := h; rfl) | (obtain ⟨_, _, _, _, _, _, rfl, _⟩ := h; rfl) | (obtain ⟨_, _, _, _, _, _, _, rfl, _⟩ := h; rfl) | (obtain ⟨_, _, _, _, _, _, _, _, rfl, _⟩ := h; rfl) | (obtain ⟨_, _, _, _, _, _, _, _, _, rfl, _⟩ := h; rfl) | (obtain ⟨_, _, _, _, _, _, _, _, _, _, rfl, _⟩ := h; rfl) | (obtain ⟨_, _, _, _, _, _, _, _, _, _, _, rfl, _⟩ := h; rfl) | (obtain ⟨_, _, _, _, _, _, _, _, _, _, _, _, rfl, _⟩ := h; rfl) | (obtain ⟨_, _, _, _, _, _, _, _, _, _, _, _, _, rfl, _⟩ := h; rfl) | (obtain ⟨rfl⟩ := h; rfl) | (obtain ⟨_, rfl⟩ := h; rfl) | (obtain ⟨_, _, rfl⟩ := h; rfl) | (obtain ⟨_, _, _, rfl⟩ := h; rfl) | (obtain ⟨_, _, _, _, rfl⟩ := h; rfl) | (obtain ⟨_, _, _, _, _, rfl⟩ := h; rfl) | (obtain ⟨_, _, _, _, _, _, rfl⟩ := h; rfl) | (obtain ⟨_, _, _, _, _, _, _, rfl⟩ := h; rfl) | (obtain ⟨_, _, _, _, _, _, _, _, rfl⟩ := h; rfl) | (obtain ⟨_, _, _, _, _, _, _, _, _, rfl⟩ := h; rfl) | (obtain ⟨_, _, _, _, _, _, _, _, _, _, rfl⟩ := h; rfl) | (obtain ⟨_, _, _, _, _, _, _, _, _, _, _, rfl⟩ := h; rfl) | (obtain ⟨_, _, _, _, _, _, _, _, _, _, _, _, rfl⟩ := h; rfl) | (obtain ⟨_, _, _, _, _, _, _, _, _, _, _, _, _, rfl⟩ := h; rfl))) (fun _ _ _ _ _ _ us hl => match us, hl with | [_], _ => rfl) (fun f cdv A0 outer s H vs Q E hr h => ⟨_, (pss_one (ps_ret (pe_chain op_le op_le (pe_gi T.i_FIRST_MONSTER) (pv 0) (pe_gi T.i_LAST_MONSTER)))), ?_⟩)
  obtain ⟨v, rfl, k⟩ := h
  refine ⟨_, rfl, _, _, rfl, rfl, _, rfl, ?_⟩
  refine if_d (fun c => ?_) fun c => ?_
  · exact ⟨_, _, rfl, rfl, q_of (Q := Q) k (congrArg V.bl (decide_eq_decide.mpr (by omega)))⟩
  · exact q_of (Q := Q) k (congrArg V.bl (decide_eq_false (by omega)).symm)
end
/-! ### the tick under way -/
structure TS where
  w : Nat
  h : Nat
  cells : List Nat
  had : List Bool
  st : Nat
  pts : Nat
def vi (l : List Nat) : List V := l.map fun n => .int (n : Nat)
def vb (l : List Bool) : List V := l.map .bl
/-- the instance t with its two lists -/
structure TickAt (A : Ad) (H : Hp) (t tc th : Addr) (s : TS) : Prop where
  ne : tc ≠ th
  t : ∃ dx, H t = some (.ins A.tick dx (kz kTick [.int s.w, .int s.h, .ref tc, .ref th, .int s.st, .int s.pts]))
  c : H tc = some (.lst (vi s.cells))
  d : H th = some (.lst (vb s.had))
theorem TickAt.ntc {A : Ad} {H : Hp} {t tc th : Addr} {s : TS} (T : TickAt A H t tc th s) : t ≠ tc := by
  obtain ⟨dx, h⟩ := T.t
  exact ne_of h T.c (by intro z; cases z)
theorem TickAt.nth {A : Ad} {H : Hp} {t tc th : Addr} {s : TS} (T : TickAt A H t tc th s) : t ≠ th := by
  obtain ⟨dx, h⟩ := T.t
  exact ne_of h T.d (by intro z; cases z)
theorem TickAt.mono {A : Ad} {H H' : Hp} {t tc th : Addr} {s : TS} (T : TickAt A H t tc th s) (e : Same H H') : TickAt A H' t tc th s :=
  ⟨T.ne, T.t.imp fun _ h => e _ _ h, e _ _ T.c, e _ _ T.d⟩
/-- well-formed: the lists have their lengths, what is there is one of the thirteen -/
structure TS.Ok (s : TS) : Prop where
  hw : 1 ≤ s.w ∧ s.w ≤ 20
  hh : 1 ≤ s.h ∧ s.h ≤ 14
  lc : s.cells.length = s.w * s.h
  lh : s.had.length = s.w * s.h
  c12 : ∀ c ∈ s.cells, c ≤ 12
def inR (s : TS) (x y : Int) : Prop := 0 ≤ x ∧ x < s.w ∧ 0 ≤ y ∧ y < s.h
instance (s : TS) (x y : Int) : Decidable (inR s x y) := inferInstanceAs (Decidable (_ ∧ _ ∧ _ ∧ _))
def pl (s : TS) (x y : Int) : Nat := (y * s.w + x).toNat
def atM (s : TS) (x y : Int) : Nat := if inR s x y then s.cells.getD (pl s x y) 2 else 2
def putM (s : TS) (x y : Int) (v : Nat) : TS := { s with cells := s.cells.set (pl s x y) v }
def arriveM (s : TS) (x y : Int) (v : Nat) : TS := { putM s x y v with had := s.had.set (pl s x y) true }
def goM (s : TS) (x y dx dy : Int) (v : Nat) : TS := arriveM (putM s x y 0) (x + dx) (y + dy) v
theorem pl_eq {s : TS} {x y : Int} (h : inR s x y) : ((pl s x y : Nat) : Int) = y * s.w + x := by
  obtain ⟨h1, h2, h3, h4⟩ := h
  have : 0 ≤ y * (s.w : Int) := Int.mul_nonneg h3 (by omega)
  unfold pl
  omega
theorem pl_lt {s : TS} {x y : Int} (h : inR s x y) : pl s x y < s.w * s.h := by
  have e := pl_eq h
  obtain ⟨h1, h2, h3, h4⟩ := h
  have q : (y + 1) * (s.w : Int) ≤ s.h * s.w := Int.mul_le_mul_of_nonneg_right (by omega) (by omega)
  have r : (y + 1) * (s.w : Int) = y * s.w + s.w := by rw [Int.add_mul, Int.one_mul]
  have z : ((s.w * s.h : Nat) : Int) = s.h * s.w := by rw [Int.natCast_mul, Int.mul_comm]
  omega
theorem at_get {s : TS} (ok : s.Ok) {x y : Int} (h : inR s x y) : (vi s.cells)[pl s x y]? = some (.int (atM s x y : Nat)) := by
  have hl := pl_lt h
  rw [← ok.lc] at hl
  unfold vi atM
  rw [if_pos h, List.getElem?_map, List.getElem?_eq_getElem hl, List.getD_eq_getElem?_getD, List.getElem?_eq_getElem hl]
  rfl
theorem ix_nat {n j : Nat} {i : Int} (h : ((j : Nat) : Int) = i) (hj : j < n) : ixN n i = some j := by
  subst h
  unfold ixN
  rw [if_pos (by omega), if_pos (by omega)]
  simp
theorem at_ix {α : Type} {xs : List α} {j : Nat} {i : Int} {v : α} (h : ((j : Nat) : Int) = i) (e : xs[j]? = some v) : atI xs i = some v := by
  rw [← h]
  exact atI_nat e
def spAt (A : Ad) : Sp := fun vs H Q _ => ∃ t tc th s, ∃ x y : Int, vs = [.ref t, .int x, .int y] ∧ TickAt A H t tc th s ∧ s.Ok ∧ Q (.int (atM s x y : Nat)) H
def spPut (A : Ad) : Sp := fun vs H Q _ => ∃ t tc th s, ∃ (x y : Int) (v : Nat), vs = [.ref t, .int x, .int y, .int v] ∧ TickAt A H t tc th s ∧ s.Ok ∧ inR s x y ∧
  ∀ H', TickAt A H' t tc th (putM s x y v) → Fr [t, tc, th] H H' → Q .non H'
def spArrive (A : Ad) : Sp := fun vs H Q _ => ∃ t tc th s, ∃ (x y : Int) (v : Nat), vs = [.ref t, .int x, .int y, .int v] ∧ TickAt A H t tc th s ∧ s.Ok ∧ inR s x y ∧
  ∀ H', TickAt A H' t tc th (arriveM s x y v) → Fr [t, tc, th] H H' → Q .non H'
/-- the way: a pair at the address p -/
def spGo (A : Ad) (K : PySem.W.Frag) : Sp := fun vs H Q _ => ∃ t tc th s, ∃ (x y dx dy : Int) (v : Nat) (p : Addr), vs = [.ref t, .int x, .int y, .ref p, .int v] ∧ TickAt A H t tc th s ∧ s.Ok ∧ inR s x y ∧ inR s (x + dx) (y + dy) ∧
  (∀ H', Fr [t, tc, th] H H' → SqT K H' p [.int dx, .int dy]) ∧ ∀ H', TickAt A H' t tc th (goM s x y dx dy v) → Fr [t, tc, th] H H' → Q .non H'
theorem vi_set (l : List Nat) (i v : Nat) : (vi l).set i (.int (v : Nat)) = vi (l.set i v) := by unfold vi; rw [List.map_set]
theorem vb_set (l : List Bool) (i : Nat) (v : Bool) : (vb l).set i (.bl v) = vb (l.set i v) := by unfold vb; rw [List.map_set]
theorem vi_len (l : List Nat) : (vi l).length = l.length := List.length_map _
theorem vb_len (l : List Bool) : (vb l).length = l.length := List.length_map _
section
variable {P : Program} {w : World} {K : PySem.W.Frag} {mg : Str → Option Value} {base : Heap} {A : Ad}
theorem sc_Tick_at : FnScope ["self", "x", "y"] ["self", "x", "y"] (defScope (inClass (topS 36) 1)) := ⟨rfl, rfl, rfl, by decide +kernel, rfl, by decide +kernel, by decide +kernel⟩
theorem sc_Tick_put : FnScope ["self", "x", "y", "thing"] ["self", "x", "y", "thing"] (defScope (inClass (topS 36) 2)) := ⟨rfl, rfl, rfl, by decide +kernel, rfl, by decide +kernel, by decide +kernel⟩
theorem sc_Tick_arrive : FnScope ["self", "x", "y", "thing"] ["self", "x", "y", "thing"] (defScope (inClass (topS 36) 3)) := ⟨rfl, rfl, rfl, by decide +kernel, rfl, by decide +kernel, by decide +kernel⟩
theorem sc_Tick_go : FnScope ["self", "x", "y", "way", "thing"] ["self", "x", "y", "way", "thing"] (defScope (inClass (topS 36) 4)) := ⟨rfl, rfl, rfl, by decide +kernel, rfl, by decide +kernel, by decide +kernel⟩
theorem m_Tick_at (T : Txt K mg A) : MethOk P w K mg base CX0 1 A.tick "at" ["self", "x", "y"] (spAt A) := by
  refine T.d_Tick_at.ok (N := ["self", "x", "y"]) sc_Tick_at (fun vs H Q E h => (by first | (obtain ⟨rfl, _⟩ := h; rfl) | (obtain ⟨_, rfl, _⟩ := h; rfl) | (obtain ⟨_, _, rfl, _⟩ := h; rfl) | (obtain ⟨_, _, _, rfl, _⟩ := h; rfl) | (obtain ⟨_, _, _, _, rfl, _⟩ := h; rfl) | (obtain ⟨_, _, _, _, _, rfl, _⟩ := h; rfl) | (obtain ⟨_, _, _, _, _, _, rfl, _⟩ := h; rfl) | (obtain ⟨_, _, _, _, _, _, _, rfl, _⟩ := h; rfl) | (obtain ⟨_, _, _, _, _, _, _, _, rfl, _⟩ := h; rfl) | (obtain ⟨_, _, _, _, _, _, _, _, _, rfl, _⟩ := h; rfl) | (obtain ⟨_, _, _, _, _, _, _, _, _, _, rfl, _⟩ := h; rfl) | (obtain ⟨_, _, _, _, _, _, _, _, _, _, _, rfl, _⟩ := h; rfl) | (obtain ⟨_, _, _, _, _, _, _, _, _, _, _, _, rfl, _⟩ := h; rfl) | (obtain ⟨_, _, _, _, _, _, _, _, _, _, _, _, _, rfl, _⟩ := h; rfl) | (obtain ⟨rfl⟩ := h; rfl) | (obtain ⟨_, rfl⟩ := h; rfl) | (obtain ⟨_, _, rfl⟩ := h; rfl) | (obtain ⟨_, _, _, rfl⟩ := h; rfl) | (obtain ⟨_, _, _, _, rfl⟩ := h; rfl) | (obtain ⟨_, _, _, _, _, rfl⟩ := h; rfl) | (obtain ⟨_, _, _, _, _, _, rfl⟩ := h; rfl) | (obtain ⟨_, _, _, _, _, _, _, rfl⟩ := h; rfl) | (obtain ⟨_, _, _, _, _, _, _, _, rfl⟩ := h; rfl) | (obtain ⟨_, _, _, _, _, _, _, _, _, rfl⟩ := h; rfl) | (obtain ⟨_, _, _, _, _, _, _, _, _, _, rfl⟩ := h; rfl) | (obtain ⟨_, _, _, _, _, _, _, _, _, _, _, rfl⟩ := h; rfl) | (obtain ⟨_, _, _, _, _, _, _, _, _, _, _, _, rfl⟩ := h; rfl) | (obtain ⟨_, _, _, _, _, _, _, _, _, _, _, _, _, rfl⟩ := h; rfl))) (fun _ _ _ _ _ _ us hl => match us, hl with | [_, _, _], _ => rfl) (fun f cdv A0 outer s H vs Q E hr h => ⟨_, (pss_cons (ps_if (PW.pt (pw_and (pt_chain op_le op_lt pe_int (pv 1) (pe_get (ks := kTick) (i := 0) T.cTick T.nTick_wide (by decide +kernel) (pv 0))) (pw_and1 (pt_chain op_le op_lt pe_int (pv 2) (pe_get (ks := kTick) (i := 1) T.cTick T.nTick_high (by decide +kernel) (pv 0)))))) (pss_one (ps_ret (pe_ix ix_list (pe_get (ks := kTick) (i := 2) T.cTick T.nTick_cells (by decide +kernel) (pv 0)) (pe_op op_add (pe_op op_mul (pv 2) (pe_get (ks := kTick) (i := 0) T.cTick T.nTick_wide (by decide +kernel) (pv 0))) (pv 1)) (fun _ _ => rfl)))) pss_nil)
      (pss_one (ps_ret (pe_gi T.i_WALL)))), ?_⟩)
  obtain ⟨t, tc, th, s, x, y, rfl, hT, ok, k⟩ := h
  obtain ⟨dx, ht⟩ := hT.t
  have fin : ¬ inR s x y → Q (.int 2) H := fun n => by rw [atM, if_neg n] at k; exact k
  refine ⟨_, rfl, _, _, rfl, rfl, _, rfl, ?_⟩
  refine if_d (fun c1 => ?_) fun c1 => ?_
  · refine ⟨_, rfl, _, _, _, _, rfl, ht, rfl, _, _, rfl, rfl, _, rfl, ?_⟩
    refine if_d (fun c2 => ?_) fun c2 => ?_
    · refine ⟨_, rfl, _, _, rfl, rfl, _, rfl, ?_⟩
      refine if_d (fun c3 => ?_) fun c3 => ?_
      · refine ⟨_, rfl, _, _, _, _, rfl, ht, rfl, _, _, rfl, rfl, _, rfl, ?_⟩
        refine if_d (fun c4 => ?_) fun c4 => ?_
        · have i : inR s x y := ⟨c1, c2, c3, c4⟩
          refine ⟨_, rfl, _, _, _, _, rfl, ht, rfl, _, rfl, _, rfl, _, _, _, _, rfl, ht, rfl, _, _, rfl, rfl, .inr ⟨by omega, by have := ok.hw; omega⟩, _, rfl, _, _, rfl, rfl, ?_⟩
          exact ⟨_, _, _, _, rfl, rfl, SqL.of hT.c, at_ix (pl_eq i) (at_get ok i), k⟩
        · exact fin fun i => c4 i.2.2.2
      · exact ⟨_, rfl, if_n rfl (fin fun i => c3 i.2.2.1)⟩
    · exact if_n rfl (fin fun i => c2 i.2.1)
  · exact ⟨_, rfl, if_n rfl (if_n rfl (fin fun i => c1 i.1))⟩
theorem m_Tick_put (T : Txt K mg A) : MethOk P w K mg base CX0 1 A.tick "put" ["self", "x", "y", "thing"] (spPut A) := by
  refine T.d_Tick_put.ok (N := ["self", "x", "y", "thing"]) sc_Tick_put (fun vs H Q E h => (by first | (obtain ⟨rfl, _⟩ := h; rfl) | (obtain ⟨_, rfl, _⟩ := h; rfl) | (obtain ⟨_, _, rfl, _⟩ := h; rfl) | (obtain ⟨_, _, _, rfl, _⟩ := h; rfl) | (obtain ⟨_, _, _, _, rfl, _⟩ := h; rfl) | (obtain ⟨_, _, _, _, _, rfl, _⟩ := h; rfl) | (obtain ⟨_, _, _, _, _, _, rfl, _⟩ := h; rfl) | (obtain ⟨_, _, _, _, _, _, _, rfl, _⟩ := h; rfl) | (obtain ⟨_, _, _, _, _, _, _, _, rfl, _⟩ := h; rfl) | (obtain ⟨_, _, _, _, _, _, _, _, _, rfl, _⟩ := h; rfl) | (obtain ⟨_, _, _, _, _, _, _, _, _, _, rfl, _⟩ := h; rfl) | (obtain ⟨_, _, _, _, _, _, _, _, _, _, _, rfl, _⟩ := h; rfl) | (obtain ⟨_, _, _, _, _, _, _, _, _, _, _, _, rfl, _⟩ := h; rfl) | (obtain ⟨_, _, _, _, _, _, _, _, _, _, _, _, _, rfl, _⟩ := h; rfl) | (obtain ⟨rfl⟩ := h; rfl) | (obtain ⟨_, rfl⟩ := h; rfl) | (obtain ⟨_, _, rfl⟩ := h; rfl) | (obtain ⟨_, _, _, rfl⟩ := h; rfl) | (obtain ⟨_, _, _, _, rfl⟩ := h; rfl) | (obtain ⟨_, _, _, _, _, rfl⟩ := h; rfl) | (obtain ⟨_, _, _, _, _, _, rfl⟩ := h; rfl) | (obtain ⟨_, _, _, _, _, _, _, rfl⟩ := h; rfl) | (obtain ⟨_, _, _, _, _, _, _, _, rfl⟩ := h; rfl) | (obtain ⟨_, _, _, _, _, _, _, _, _, rfl⟩ := h; rfl) | (obtain ⟨_, _, _, _, _, _, _, _, _, _, rfl⟩ := h; rfl) | (obtain ⟨_, _, _, _, _, _, _, _, _, _, _, rfl⟩ := h; rfl) | (obtain ⟨_, _, _, _, _, _, _, _, _, _, _, _, rfl⟩ := h; rfl) | (obtain ⟨_, _, _, _, _, _, _, _, _, _, _, _, _, rfl⟩ := h; rfl))) (fun _ _ _ _ _ _ us hl => match us, hl with | [_, _, _, _], _ => rfl) (fun f cdv A0 outer s H vs Q E hr h => ⟨_, (pss_one (ps_asg (pv 3) (pg_sub (pe_get (ks := kTick) (i := 2) T.cTick T.nTick_cells (by decide +kernel) (pv 0)) (pe_op op_add (pe_op op_mul (pv 2) (pe_get (ks := kTick) (i := 0) T.cTick T.nTick_wide (by decide +kernel) (pv 0))) (pv 1)) set_list))), ?_⟩)
  obtain ⟨t, tc, th, s, x, y, v, rfl, hT, ok, i, k⟩ := h
  obtain ⟨dx, ht⟩ := hT.t
  refine ⟨_, rfl, _, rfl, _, _, _, _, rfl, ht, rfl, _, rfl, _, rfl, _, _, _, _, rfl, ht, rfl, _, _, rfl, rfl, .inr ⟨by omega, by have := ok.hw; omega⟩, _, rfl, _, _, rfl, rfl, ?_⟩
  refine ⟨_, _, _, _, rfl, rfl, hT.c, ix_nat (pl_eq i) (by rw [vi_len, ok.lc]; exact pl_lt i), ?_⟩
  rw [vi_set]
  exact k _ ⟨hT.ne, ⟨dx, by rw [upd_ne hT.ntc]; exact ht⟩, upd_same, by rw [upd_ne (Ne.symm hT.ne)]; exact hT.d⟩ ((Fr.refl _ _).upd (by simp))
theorem putM_ok {s : TS} (ok : s.Ok) {x y : Int} {v : Nat} (hv : v ≤ 12) : (putM s x y v).Ok :=
  ⟨ok.hw, ok.hh, by show (s.cells.set _ _).length = _; rw [List.length_set]; exact ok.lc, ok.lh, fun c hc => by
    rcases List.mem_or_eq_of_mem_set hc with h | h
    · exact ok.c12 c h
    · rw [h]; exact hv⟩
theorem arriveM_ok {s : TS} (ok : s.Ok) {x y : Int} {v : Nat} (hv : v ≤ 12) : (arriveM s x y v).Ok :=
  ⟨ok.hw, ok.hh, (putM_ok ok hv).lc, by show (s.had.set _ _).length = _; rw [List.length_set]; exact ok.lh, (putM_ok ok hv).c12⟩
theorem m_Tick_arrive (T : Txt K mg A) : MethOk P w K mg base CX0 2 A.tick "arrive" ["self", "x", "y", "thing"] (spArrive A) := by
  refine T.d_Tick_arrive.ok (N := ["self", "x", "y", "thing"]) sc_Tick_arrive (fun vs H Q E h => (by first | (obtain ⟨rfl, _⟩ := h; rfl) | (obtain ⟨_, rfl, _⟩ := h; rfl) | (obtain ⟨_, _, rfl, _⟩ := h; rfl) | (obtain ⟨_, _, _, rfl, _⟩ := h; rfl) | (obtain ⟨_, _, _, _, rfl, _⟩ := h; rfl) | (obtain ⟨_, _, _, _, _, rfl, _⟩ := h; rfl) | (obtain ⟨_, _, _, _, _, _, rfl, _⟩ := h; rfl) | (obtain ⟨_, _, _, _, _, _, _, rfl, _⟩ := h; rfl) | (obtain ⟨_, _, _, _, _, _, _, _, rfl, _⟩ := h; rfl) | (obtain ⟨_, _, _, _, _, _, _, _, _, rfl, _⟩ := h; rfl) | (obtain ⟨_, _, _, _, _, _, _, _, _, _, rfl, _⟩ := h; rfl) | (obtain ⟨_, _, _, _, _, _, _, _, _, _, _, rfl, _⟩ := h; rfl) | (obtain ⟨_, _, _, _, _, _, _, _, _, _, _, _, rfl, _⟩ := h; rfl) | (obtain ⟨_, _, _, _, _, _, _, _, _, _, _, _, _, rfl, _⟩ := h; rfl) | (obtain ⟨rfl⟩ := h; rfl) | (obtain ⟨_, rfl⟩ := h; rfl) | (obtain ⟨_, _, rfl⟩ := h; rfl) | (obtain ⟨_, _, _, rfl⟩ := h; rfl) | (obtain ⟨_, _, _, _, rfl⟩ := h; rfl) | (obtain ⟨_, _, _, _, _, rfl⟩ := h; rfl) | (obtain ⟨_, _, _, _, _, _, rfl⟩ := h; rfl) | (obtain ⟨_, _, _, _, _, _, _, rfl⟩ := h; rfl) | (obtain ⟨_, _, _, _, _, _, _, _, rfl⟩ := h; rfl) | (obtain ⟨_, _, _, _, _, _, _, _, _, rfl⟩ := h; rfl) | (obtain ⟨_, _, _, _, _, _, _, _, _, _, rfl⟩ := h; rfl) | (obtain ⟨_, _, _, _, _, _, _, _, _, _, _, rfl⟩ := h; rfl) | (obtain ⟨_, _, _, _, _, _, _, _, _, _, _, _, rfl⟩ := h; rfl) | (obtain ⟨_, _, _, _, _, _, _, _, _, _, _, _, _, rfl⟩ := h; rfl))) (fun _ _ _ _ _ _ us hl => match us, hl with | [_, _, _, _], _ => rfl) (fun f cdv A0 outer s H vs Q E hr h => ⟨_, (pss_cons (ps_expr (pe_mth (ks := kTick) T.cTick (by decide +kernel) (m_Tick_put T) (hr.mono (by decide)) pass0 (pv 0) (pa_cons (pv 1) (pa_cons (pv 2) (pa_cons (pv 3) pa_nil)))))
      (pss_one (ps_asg pe_bl (pg_sub (pe_get (ks := kTick) (i := 3) T.cTick T.nTick_had (by decide +kernel) (pv 0)) (pe_op op_add (pe_op op_mul (pv 2) (pe_get (ks := kTick) (i := 0) T.cTick T.nTick_wide (by decide +kernel) (pv 0))) (pv 1)) set_list)))), ?_⟩)
  obtain ⟨t, tc, th, s, x, y, v, rfl, hT, ok, i, k⟩ := h
  obtain ⟨dx, ht⟩ := hT.t
  refine ⟨_, rfl, _, _, _, rfl, ht, _, rfl, _, rfl, _, rfl, t, tc, th, s, x, y, v, rfl, hT, ok, i, fun H1 hT1 f1 => ?_⟩
  obtain ⟨dx1, ht1⟩ := hT1.t
  have i1 : inR (putM s x y v) x y := i
  have hl : pl s x y < (vb s.had).length := by rw [vb_len, ok.lh]; exact pl_lt i
  refine ⟨_, rfl, _, _, _, _, rfl, ht1, rfl, _, rfl, _, rfl, _, _, _, _, rfl, ht1, rfl, _, _, rfl, rfl, .inr ⟨by show _ < (s.w : Int); omega, by have := ok.hw; show (s.w : Int) < _; omega⟩, _, rfl, _, _, rfl, rfl, ?_⟩
  refine ⟨_, _, _, _, rfl, rfl, hT1.d, ix_nat (pl_eq i) hl, ?_⟩
  rw [vb_set]
  exact k _ ⟨hT.ne, ⟨dx1, by rw [upd_ne hT1.nth]; exact ht1⟩, by rw [upd_ne hT.ne]; exact hT1.c, upd_same⟩ (f1.upd (by simp))
theorem same_sq {H H' : Hp} {p : Addr} {xs : List V} {W : List Addr} (f : Fr W H H') (h : SqT K H p xs) (n : p ∉ W) : SqT K H' p xs := by
  rcases h with (h | ⟨o, h⟩) | h
  · exact .inl (.inl (f _ _ h n))
  · exact .inl (.inr ⟨o, f _ _ h n⟩)
  · exact .inr h
theorem m_Tick_go (T : Txt K mg A) : MethOk P w K mg base CX0 3 A.tick "go" ["self", "x", "y", "way", "thing"] (spGo A K) := by
  refine T.d_Tick_go.ok (N := ["self", "x", "y", "way", "thing"]) sc_Tick_go (fun vs H Q E h => (by first | (obtain ⟨rfl, _⟩ := h; rfl) | (obtain ⟨_, rfl, _⟩ := h; rfl) | (obtain ⟨_, _, rfl, _⟩ := h; rfl) | (obtain ⟨_, _, _, rfl, _⟩ := h; rfl) | (obtain ⟨_, _, _, _, rfl, _⟩ := h; rfl) | (obtain ⟨_, _, _, _, _, rfl, _⟩ := h; rfl) | (obtain ⟨_, _, _, _, _, _, rfl, _⟩ := h; rfl) | (obtain ⟨_, _, _, _, _, _, _, rfl, _⟩ := h; rfl) | (obtain ⟨_, _, _, _, _, _, _, _, rfl, _⟩ := h; rfl) | (obtain ⟨_, _, _, _, _, _, _, _, _, rfl, _⟩ := h; rfl) | (obtain ⟨_, _, _, _, _, _, _, _, _, _, rfl, _⟩ := h; rfl) | (obtain ⟨_, _, _, _, _, _, _, _, _, _, _, rfl, _⟩ := h; rfl) | (obtain ⟨_, _, _, _, _, _, _, _, _, _, _, _, rfl, _⟩ := h; rfl) | (obtain ⟨_, _, _, _, _, _, _, _, _, _, _, _, _, rfl, _⟩ := h; rfl) | (obtain ⟨rfl⟩ := h; rfl) | (obtain ⟨_, rfl⟩ := h; rfl) | (obtain ⟨_, _, rfl⟩ := h; rfl) | (obtain ⟨_, _, _, rfl⟩ := h; rfl) | (obtain ⟨_, _, _, _, rfl⟩ := h; rfl) | (obtain ⟨_, _, _, _, _, rfl⟩ := h; rfl) | (obtain ⟨_, _, _, _, _, _, rfl⟩ := h; rfl) | (obtain ⟨_, _, _, _, _, _, _, rfl⟩ := h; rfl) | (obtain ⟨_, _, _, _, _, _, _, _, rfl⟩ := h; rfl) | (obtain ⟨_, _, _, _, _, _, _, _, _, rfl⟩ := h; rfl) | (obtain ⟨_, _, _, _, _, _, _, _, _, _, rfl⟩ := h; rfl) | (obtain ⟨_, _, _, _, _, _, _, _, _, _, _, rfl⟩ := h; rfl) | (obtain ⟨_, _, _, _, _, _, _, _, _, _, _, _, rfl⟩ := h; rfl) | (obtain ⟨_, _, _, _, _, _, _, _, _, _, _, _, _, rfl⟩ := h; rfl))) (fun _ _ _ _ _ _ us hl => match us, hl with | [_, _, _, _, _], _ => rfl) (fun f cdv A0 outer s H vs Q E hr h => ⟨_, (pss_cons (ps_expr (pe_mth (ks := kTick) T.cTick (by decide +kernel) (m_Tick_put T) (hr.mono (by decide)) pass0 (pv 0) (pa_cons (pv 1) (pa_cons (pv 2) (pa_cons (pe_gi T.i_NOTHING) pa_nil)))))
      (pss_one (ps_expr (pe_mth (ks := kTick) T.cTick (by decide +kernel) (m_Tick_arrive T) (hr.mono (by decide)) pass0 (pv 0) (pa_cons (pe_op op_add (pv 1) (pe_ix ix_tup (pv 3) pe_int (fun _ _ => rfl))) (pa_cons (pe_op op_add (pv 2) (pe_ix ix_tup (pv 3) pe_int (fun _ _ => rfl))) (pa_cons (pv 4) pa_nil))))))), ?_⟩)
  obtain ⟨t, tc, th, s, x, y, dx, dy, v, p, rfl, hT, ok, i, j, hp, k⟩ := h
  obtain ⟨d0, ht⟩ := hT.t
  refine ⟨_, rfl, _, _, _, rfl, ht, _, rfl, _, rfl, t, tc, th, s, x, y, 0, rfl, hT, ok, i, fun H1 hT1 f1 => ?_⟩
  obtain ⟨d1, ht1⟩ := hT1.t
  have hp1 : SqT K H1 p [.int dx, .int dy] := hp _ f1
  refine ⟨_, rfl, _, _, _, rfl, ht1, ?_⟩
  refine ⟨_, rfl, _, rfl, _, _, _, _, rfl, rfl, hp1, at_ix (j := 0) rfl rfl, _, _, rfl, rfl, ?_⟩
  refine ⟨_, rfl, _, rfl, _, _, _, _, rfl, rfl, hp1, at_ix (j := 1) rfl rfl, _, _, rfl, rfl, ?_⟩
  refine ⟨_, rfl, t, tc, th, putM s x y 0, x + dx, y + dy, v, rfl, hT1, putM_ok ok (by omega), j, fun H2 hT2 f2 => ?_⟩
  exact k _ hT2 (f1.trans f2)
end
end SC
/-! SC3: ticks, the turns. -/
namespace SC
open PySem PySem.Spec PyProof.Rows L2
theorem if_e {n m : Nat} {A B : Prop} (h1 : n = m → A) (h2 : n ≠ m → B) : if decide (V.int (n : Int) = V.int (m : Int)) = true then A else B :=
  if_d (fun c => h1 (by injection c with c; omega)) fun c => h2 fun z => c (by rw [z])
theorem at_in {s : TS} {x y : Int} (h : atM s x y ≠ 2) : inR s x y := by
  by_cases c : inR s x y
  · exact c
  · rw [atM, if_neg c] at h
    exact absurd rfl h
theorem fallen_le (v : Nat) : fallenM v ≤ 12 := by unfold fallenM; split <;> omega
theorem lying_le (v : Nat) : lyingM v ≤ 12 := by unfold lyingM; split <;> omega
theorem goM_ok {s : TS} (ok : s.Ok) {x y dx dy : Int} {v : Nat} (hv : v ≤ 12) : (goM s x y dx dy v).Ok := arriveM_ok (putM_ok ok (by omega)) hv
theorem st_ok {s : TS} (ok : s.Ok) (a b : Nat) : ({ s with st := a, pts := b } : TS).Ok := ⟨ok.hw, ok.hh, ok.lc, ok.lh, ok.c12⟩
def gemsM (s : TS) : Bool := s.cells.contains 5 || s.cells.contains 6
def pushM (s : TS) (x y dx dy : Int) : TS := if dy = 0 ∧ atM s (x + 2 * dx) y = 0 then goM (goM s (x + dx) y dx dy 3) x y dx dy 7 else s
def wayX (k : Nat) : Int := if k = 0 then 1 else if k = 2 then -1 else 0
def wayY (k : Nat) : Int := if k = 1 then 1 else if k = 3 then -1 else 0
def playM (s : TS) (x y : Int) (key : Nat) : TS := if key = 0 then s else
  let v := atM s (x + wayX (key - 1)) (y + wayY (key - 1))
  if v = 0 ∨ v = 1 ∨ v = 5 ∨ v = 6 then { goM s x y (wayX (key - 1)) (wayY (key - 1)) 7 with pts := s.pts + (if v = 5 ∨ v = 6 then 10 else 0) } else
  if v = 3 then pushM s x y (wayX (key - 1)) (wayY (key - 1)) else
  if v = 12 ∧ gemsM s = false then { putM s x y 0 with pts := s.pts + 100, st := 1 } else s
def freeM (s : TS) (x y d : Int) : Prop := atM s (x + d) y = 0 ∧ atM s (x + d) (y + 1) = 0
instance (s : TS) (x y d : Int) : Decidable (freeM s x y d) := inferInstanceAs (Decidable (_ ∧ _))
def rollM (s : TS) (x y : Int) (v : Nat) : TS := if freeM s x y (-1) then goM s x y (-1) 0 (fallenM v) else if freeM s x y 1 then goM s x y 1 0 (fallenM v) else putM s x y (lyingM v)
def fallM (s : TS) (x y : Int) (v : Nat) : TS :=
  let b := atM s x (y + 1)
  if b = 0 then goM s x y 0 1 (fallenM v) else
  if (v = 4 ∨ v = 6) ∧ b = 7 then { goM s x y 0 1 (lyingM v) with st := 2 } else
  if (v = 4 ∨ v = 6) ∧ monsterM b = true then { putM (arriveM s x (y + 1) 5) x y (lyingM v) with pts := s.pts + 20 } else
  if b = 3 ∨ b = 5 then rollM s x y v else putM s x y (lyingM v)
def nearM (s : TS) (x y : Int) (k : Nat) : Nat := atM s (x + wayX k) (y + wayY k)
def walkM (s : TS) (x y : Int) (v : Nat) : TS :=
  if nearM s x y 0 = 7 ∨ nearM s x y 1 = 7 ∨ nearM s x y 2 = 7 ∨ nearM s x y 3 = 7 then { s with st := 2 } else
  let l := (v - 8 + 3) % 4
  if nearM s x y l = 0 then goM s x y (wayX l) (wayY l) (8 + l) else
  if nearM s x y (v - 8) = 0 then goM s x y (wayX (v - 8)) (wayY (v - 8)) v else putM s x y (8 + (v - 8 + 1) % 4)
def turnM (s : TS) (x y : Int) (key : Nat) : TS :=
  let v := atM s x y
  if v = 7 then playM s x y key else if v = 3 ∨ v = 4 ∨ v = 5 ∨ v = 6 then fallM s x y v else if monsterM v = true then walkM s x y v else s
/-- promises: a turn's parts -/
def spGems (A : Ad) : Sp := fun vs H Q _ => ∃ t tc th s, vs = [.ref t] ∧ TickAt A H t tc th s ∧ Q (.bl (gemsM s)) H
def spPush (A : Ad) (K : PySem.W.Frag) : Sp := fun vs H Q _ => ∃ t tc th s, ∃ (x y dx dy : Int) (p : Addr), vs = [.ref t, .int x, .int y, .ref p] ∧ TickAt A H t tc th s ∧ s.Ok ∧ inR s x y ∧ inR s (x + dx) (y + dy) ∧
  (∀ H', Fr [t, tc, th] H H' → SqT K H' p [.int dx, .int dy]) ∧ (-1 ≤ dx ∧ dx ≤ 1) ∧ ∀ H', TickAt A H' t tc th (pushM s x y dx dy) → Fr [t, tc, th] H H' → Q .non H'
/-- a part with one number more -/
def spPart (A : Ad) (good : TS → Int → Int → Nat → Prop) (f : TS → Int → Int → Nat → TS) : Sp := fun vs H Q _ => ∃ t tc th s, ∃ (x y : Int) (v : Nat), vs = [.ref t, .int x, .int y, .int v] ∧ TickAt A H t tc th s ∧ s.Ok ∧ inR s x y ∧ good s x y v ∧
  ∀ H', TickAt A H' t tc th (f s x y v) → Fr [t, tc, th] H H' → Q .non H'
theorem inV_vi (l : List Nat) (n : Nat) : inV (.int (n : Int)) (vi l) = l.contains n := by
  unfold inV vi
  induction l with
  | nil => rfl
  | cons a l ih =>
    rw [List.map_cons, List.any_cons, ih, List.contains_cons]
    congr 1
    show ((a : Int) == (n : Int)) = (n == a)
    rw [Bool.eq_iff_iff, beq_iff_eq, beq_iff_eq]
    omega
theorem flat_vi (l : List Nat) : (vi l).all flatV = true := by
  unfold vi
  rw [List.all_map]
  exact List.all_eq_true.mpr fun _ _ => rfl
section
variable {P : Program} {w : World} {K : PySem.W.Frag} {mg : Str → Option Value} {base : Heap} {A : Ad}
theorem sc_Tick_have_gems : FnScope ["self"] ["self"] (defScope (inClass (topS 36) 5)) := ⟨rfl, rfl, rfl, by decide +kernel, rfl, by decide +kernel, by decide +kernel⟩
theorem sc_Tick_push : FnScope ["self", "x", "y", "way"] ["self", "x", "y", "way"] (defScope (inClass (topS 36) 6)) := ⟨rfl, rfl, rfl, by decide +kernel, rfl, by decide +kernel, by decide +kernel⟩
theorem m_Tick_have_gems (T : Txt K mg A) : MethOk P w K mg base CX0 1 A.tick "have_gems" ["self"] (spGems A) := by
  refine T.d_Tick_have_gems.ok (N := ["self"]) sc_Tick_have_gems (fun vs H Q E h => (by first | (obtain ⟨rfl, _⟩ := h; rfl) | (obtain ⟨_, rfl, _⟩ := h; rfl) | (obtain ⟨_, _, rfl, _⟩ := h; rfl) | (obtain ⟨_, _, _, rfl, _⟩ := h; rfl) | (obtain ⟨_, _, _, _, rfl, _⟩ := h; rfl) | (obtain ⟨_, _, _, _, _, rfl, _⟩ := h; rfl) | (obtain ⟨_, _, _, _, _, _, rfl, _⟩ := h; rfl) | (obtain ⟨_, _, _, _, _, _, _, rfl, _⟩ := h; rfl) | (obtain ⟨_, _, _, _, _, _, _, _, rfl, _⟩ := h; rfl) | (obtain ⟨_, _, _, _, _, _, _, _, _, rfl, _⟩ := h; rfl) | (obtain ⟨_, _, _, _, _, _, _, _, _, _, rfl, _⟩ := h; rfl) | (obtain ⟨_, _, _, _, _, _, _, _, _, _, _, rfl, _⟩ := h; rfl) | (obtain ⟨_, _, _, _, _, _, _, _, _, _, _, _, rfl, _⟩ := h; rfl) | (obtain ⟨_, _, _, _, _, _, _, _, _, _, _, _, _, rfl, _⟩ := h; rfl) | (obtain ⟨rfl⟩ := h; rfl) | (obtain ⟨_, rfl⟩ := h; rfl) | (obtain ⟨_, _, rfl⟩ := h; rfl) | (obtain ⟨_, _, _, rfl⟩ := h; rfl) | (obtain ⟨_, _, _, _, rfl⟩ := h; rfl) | (obtain ⟨_, _, _, _, _, rfl⟩ := h; rfl) | (obtain ⟨_, _, _, _, _, _, rfl⟩ := h; rfl) | (obtain ⟨_, _, _, _, _, _, _, rfl⟩ := h; rfl) | (obtain ⟨_, _, _, _, _, _, _, _, rfl⟩ := h; rfl) | (obtain ⟨_, _, _, _, _, _, _, _, _, rfl⟩ := h; rfl) | (obtain ⟨_, _, _, _, _, _, _, _, _, _, rfl⟩ := h; rfl) | (obtain ⟨_, _, _, _, _, _, _, _, _, _, _, rfl⟩ := h; rfl) | (obtain ⟨_, _, _, _, _, _, _, _, _, _, _, _, rfl⟩ := h; rfl) | (obtain ⟨_, _, _, _, _, _, _, _, _, _, _, _, _, rfl⟩ := h; rfl))) (fun _ _ _ _ _ _ us hl => match us, hl with | [_], _ => rfl) (fun f cdv A0 outer s H vs Q E hr h => ⟨_, (pss_one (ps_ret (pe_or (pe_cmpR op_in_seq (pe_gi T.i_GEM) (pe_get (ks := kTick) (i := 2) T.cTick T.nTick_cells (by decide +kernel) (pv 0)) (by rfl)) (pe_one (pe_cmpR op_in_seq (pe_gi T.i_FALLING_GEM) (pe_get (ks := kTick) (i := 2) T.cTick T.nTick_cells (by decide +kernel) (pv 0)) (by rfl)))))), ?_⟩)
  obtain ⟨t, tc, th, s, rfl, hT, k⟩ := h
  obtain ⟨d0, ht⟩ := hT.t
  refine ⟨_, rfl, _, _, _, _, rfl, ht, rfl, _, _, rfl, .inl (SqL.of hT.c), rfl, flat_vi _, _, rfl, ?_⟩
  refine if_b (fun c => ?_) fun c => ?_
  · refine q_of (Q := Q) k (congrArg V.bl ?_)
    have e := (inV_vi s.cells 5).symm.trans c
    rw [gemsM, e]
    rfl
  · refine ⟨_, rfl, _, _, _, _, rfl, ht, rfl, _, _, rfl, .inl (SqL.of hT.c), rfl, flat_vi _, ?_⟩
    refine q_of (Q := Q) k (congrArg V.bl ?_)
    have e := (inV_vi s.cells 5).symm.trans c
    rw [gemsM, e]
    exact inV_vi s.cells 6
theorem m_Tick_push (T : Txt K mg A) : MethOk P w K mg base CX0 4 A.tick "push" ["self", "x", "y", "way"] (spPush A K) := by
  refine T.d_Tick_push.ok (N := ["self", "x", "y", "way"]) sc_Tick_push (fun vs H Q E h => (by first | (obtain ⟨rfl, _⟩ := h; rfl) | (obtain ⟨_, rfl, _⟩ := h; rfl) | (obtain ⟨_, _, rfl, _⟩ := h; rfl) | (obtain ⟨_, _, _, rfl, _⟩ := h; rfl) | (obtain ⟨_, _, _, _, rfl, _⟩ := h; rfl) | (obtain ⟨_, _, _, _, _, rfl, _⟩ := h; rfl) | (obtain ⟨_, _, _, _, _, _, rfl, _⟩ := h; rfl) | (obtain ⟨_, _, _, _, _, _, _, rfl, _⟩ := h; rfl) | (obtain ⟨_, _, _, _, _, _, _, _, rfl, _⟩ := h; rfl) | (obtain ⟨_, _, _, _, _, _, _, _, _, rfl, _⟩ := h; rfl) | (obtain ⟨_, _, _, _, _, _, _, _, _, _, rfl, _⟩ := h; rfl) | (obtain ⟨_, _, _, _, _, _, _, _, _, _, _, rfl, _⟩ := h; rfl) | (obtain ⟨_, _, _, _, _, _, _, _, _, _, _, _, rfl, _⟩ := h; rfl) | (obtain ⟨_, _, _, _, _, _, _, _, _, _, _, _, _, rfl, _⟩ := h; rfl) | (obtain ⟨rfl⟩ := h; rfl) | (obtain ⟨_, rfl⟩ := h; rfl) | (obtain ⟨_, _, rfl⟩ := h; rfl) | (obtain ⟨_, _, _, rfl⟩ := h; rfl) | (obtain ⟨_, _, _, _, rfl⟩ := h; rfl) | (obtain ⟨_, _, _, _, _, rfl⟩ := h; rfl) | (obtain ⟨_, _, _, _, _, _, rfl⟩ := h; rfl) | (obtain ⟨_, _, _, _, _, _, _, rfl⟩ := h; rfl) | (obtain ⟨_, _, _, _, _, _, _, _, rfl⟩ := h; rfl) | (obtain ⟨_, _, _, _, _, _, _, _, _, rfl⟩ := h; rfl) | (obtain ⟨_, _, _, _, _, _, _, _, _, _, rfl⟩ := h; rfl) | (obtain ⟨_, _, _, _, _, _, _, _, _, _, _, rfl⟩ := h; rfl) | (obtain ⟨_, _, _, _, _, _, _, _, _, _, _, _, rfl⟩ := h; rfl) | (obtain ⟨_, _, _, _, _, _, _, _, _, _, _, _, _, rfl⟩ := h; rfl))) (fun _ _ _ _ _ _ us hl => match us, hl with | [_, _, _, _], _ => rfl) (fun f cdv A0 outer s H vs Q E hr h => ⟨_, (pss_one (ps_if (PW.pt (pw_and (pt_cmpR op_eq (pe_ix ix_tup (pv 3) pe_int (fun _ _ => rfl)) pe_int (nomark _)) (pw_and1 (pt_cmpR op_eq (pe_mth (ks := kTick) T.cTick (by decide +kernel) (m_Tick_at T) (hr.mono (by decide)) pass0 (pv 0) (pa_cons (pe_op op_add (pv 1) (pe_op op_mul pe_int (pe_ix ix_tup (pv 3) pe_int (fun _ _ => rfl)))) (pa_cons (pv 2) pa_nil))) (pe_gi T.i_NOTHING) (nomark _))))) (pss_cons (ps_expr (pe_mth (ks := kTick) T.cTick (by decide +kernel) (m_Tick_go T) (hr.mono (by decide)) pass0 (pv 0) (pa_cons (pe_op op_add (pv 1) (pe_ix ix_tup (pv 3) pe_int (fun _ _ => rfl))) (pa_cons (pv 2) (pa_cons (pv 3) (pa_cons (pe_gi T.i_STONE) pa_nil))))))
      (pss_one (ps_expr (pe_mth (ks := kTick) T.cTick (by decide +kernel) (m_Tick_go T) (hr.mono (by decide)) pass0 (pv 0) (pa_cons (pv 1) (pa_cons (pv 2) (pa_cons (pv 3) (pa_cons (pe_gi T.i_PLAYER) pa_nil)))))))) pss_nil)), ?_⟩)
  obtain ⟨t, tc, th, s, x, y, dx, dy, p, rfl, hT, ok, i, j, hp, hdx, k⟩ := h
  obtain ⟨d0, ht⟩ := hT.t
  have nope : ¬ (dy = 0 ∧ atM s (x + 2 * dx) y = 0) → Q .non H := fun n => k _ (by rw [pushM, if_neg n]; exact hT) (Fr.refl _ _)
  have hp0 := hp _ (Fr.refl _ _)
  refine ⟨_, rfl, _, _, _, _, rfl, rfl, hp0, at_ix (j := 1) rfl rfl, rfl, _, rfl, ?_⟩
  refine if_d (fun c1 => ?_) fun c1 => ?_
  · refine ⟨_, rfl, _, _, _, rfl, ht, _, rfl, _, rfl, _, _, _, _, rfl, rfl, hp0, at_ix (j := 0) rfl rfl, _, _, rfl, rfl, .inl ⟨by decide, by decide⟩, _, _, rfl, rfl, _, rfl, ?_⟩
    refine ⟨t, tc, th, s, _, _, rfl, hT, ok, rfl, _, rfl, ?_⟩
    refine if_e (m := 0) (fun c2 => ?_) fun c2 => ?_
    · have e1 : dy = 0 := by injection c1
      subst e1
      have j1 : inR s (x + dx) y := by rw [Int.add_zero] at j; exact j
      have j2 : inR s (x + dx + dx) (y + 0) := by
        rw [Int.add_zero, Int.add_assoc, ← Int.two_mul]
        exact at_in (by rw [c2]; decide)
      refine ⟨_, rfl, _, _, _, rfl, ht, _, rfl, _, rfl, _, _, _, _, rfl, rfl, hp0, at_ix (j := 0) rfl rfl, _, _, rfl, rfl, _, rfl, _, rfl, ?_⟩
      refine ⟨t, tc, th, s, x + dx, y, dx, 0, 3, p, rfl, hT, ok, j1, j2, hp, fun H1 hT1 f1 => ?_⟩
      obtain ⟨d1, ht1⟩ := hT1.t
      refine ⟨_, rfl, _, _, _, rfl, ht1, _, rfl, _, rfl, _, rfl, ?_⟩
      refine ⟨t, tc, th, _, x, y, dx, 0, 7, p, rfl, hT1, goM_ok ok (by omega), i, j, fun H' f' => hp _ (f1.trans f'), fun H2 hT2 f2 => ?_⟩
      exact k _ (by rw [pushM, if_pos ⟨rfl, c2⟩]; exact hT2) (f1.trans f2)
    · exact nope fun z => c2 z.2
  · exact if_n rfl (nope fun z => c1 (by rw [z.1]))
end
end SC
/-! SC4: ticks, the turns of stones and of the player. -/
namespace SC
open PySem PySem.Spec PyProof.Rows L2
section
variable {P : Program} {w : World} {K : PySem.W.Frag} {mg : Str → Option Value} {base : Heap} {A : Ad}
theorem sc_Tick_roll : FnScope ["self", "x", "y", "thing", "side"] ["self", "x", "y", "thing"] (defScope (inClass (topS 36) 8)) := ⟨rfl, rfl, rfl, by decide +kernel, rfl, by decide +kernel, by decide +kernel⟩
theorem sc_Tick_fall : FnScope ["self", "x", "y", "thing", "below"] ["self", "x", "y", "thing"] (defScope (inClass (topS 36) 9)) := ⟨rfl, rfl, rfl, by decide +kernel, rfl, by decide +kernel, by decide +kernel⟩
def sideM (i : Nat) : Int := if i = 0 then -1 else 1
theorem m_Tick_roll (T : Txt K mg A) : MethOk P w K mg base CX0 4 A.tick "roll" ["self", "x", "y", "thing"] (spPart A (fun _ _ _ _ => True) rollM) := by
  refine T.d_Tick_roll.ok (N := ["self", "x", "y", "thing", "side"]) sc_Tick_roll (fun vs H Q E h => (by first | (obtain ⟨rfl, _⟩ := h; rfl) | (obtain ⟨_, rfl, _⟩ := h; rfl) | (obtain ⟨_, _, rfl, _⟩ := h; rfl) | (obtain ⟨_, _, _, rfl, _⟩ := h; rfl) | (obtain ⟨_, _, _, _, rfl, _⟩ := h; rfl) | (obtain ⟨_, _, _, _, _, rfl, _⟩ := h; rfl) | (obtain ⟨_, _, _, _, _, _, rfl, _⟩ := h; rfl) | (obtain ⟨_, _, _, _, _, _, _, rfl, _⟩ := h; rfl) | (obtain ⟨_, _, _, _, _, _, _, _, rfl, _⟩ := h; rfl) | (obtain ⟨_, _, _, _, _, _, _, _, _, rfl, _⟩ := h; rfl) | (obtain ⟨_, _, _, _, _, _, _, _, _, _, rfl, _⟩ := h; rfl) | (obtain ⟨_, _, _, _, _, _, _, _, _, _, _, rfl, _⟩ := h; rfl) | (obtain ⟨_, _, _, _, _, _, _, _, _, _, _, _, rfl, _⟩ := h; rfl) | (obtain ⟨_, _, _, _, _, _, _, _, _, _, _, _, _, rfl, _⟩ := h; rfl) | (obtain ⟨rfl⟩ := h; rfl) | (obtain ⟨_, rfl⟩ := h; rfl) | (obtain ⟨_, _, rfl⟩ := h; rfl) | (obtain ⟨_, _, _, rfl⟩ := h; rfl) | (obtain ⟨_, _, _, _, rfl⟩ := h; rfl) | (obtain ⟨_, _, _, _, _, rfl⟩ := h; rfl) | (obtain ⟨_, _, _, _, _, _, rfl⟩ := h; rfl) | (obtain ⟨_, _, _, _, _, _, _, rfl⟩ := h; rfl) | (obtain ⟨_, _, _, _, _, _, _, _, rfl⟩ := h; rfl) | (obtain ⟨_, _, _, _, _, _, _, _, _, rfl⟩ := h; rfl) | (obtain ⟨_, _, _, _, _, _, _, _, _, _, rfl⟩ := h; rfl) | (obtain ⟨_, _, _, _, _, _, _, _, _, _, _, rfl⟩ := h; rfl) | (obtain ⟨_, _, _, _, _, _, _, _, _, _, _, _, rfl⟩ := h; rfl) | (obtain ⟨_, _, _, _, _, _, _, _, _, _, _, _, _, rfl⟩ := h; rfl))) (fun _ _ _ _ _ _ us hl => match us, hl with | [_, _, _, _], _ => rfl) (fun f cdv A0 outer s H vs Q E hr h => ⟨_, (pss_cons (ps_for PassesOwn.never rfl (pi_tup (pe_tup (pa_cons (pe_un un_neg pe_int) (pa_cons pe_int pa_nil)))) (pg_name (i := 4) sc_Tick_roll.nd rfl (by first | exact Or.inl rfl | exact Or.inr rfl)) (pss_one (ps_if (PW.pt (pw_and (pt_cmpR op_eq (pe_mth (ks := kTick) T.cTick (by decide +kernel) (m_Tick_at T) (hr.mono (by decide)) pass0 (pv 0) (pa_cons (pe_op op_add (pv 1) (pv 4)) (pa_cons (pv 2) pa_nil))) (pe_gi T.i_NOTHING) (nomark _)) (pw_and1 (pt_cmpR op_eq (pe_mth (ks := kTick) T.cTick (by decide +kernel) (m_Tick_at T) (hr.mono (by decide)) pass0 (pv 0) (pa_cons (pe_op op_add (pv 1) (pv 4)) (pa_cons (pe_op op_add (pv 2) pe_int) pa_nil))) (pe_gi T.i_NOTHING) (nomark _))))) (pss_cons (ps_expr (pe_mth (ks := kTick) T.cTick (by decide +kernel) (m_Tick_go T) (hr.mono (by decide)) pass0 (pv 0) (pa_cons (pv 1) (pa_cons (pv 2) (pa_cons (pe_tup (pa_cons (pv 4) (pa_cons pe_int pa_nil))) (pa_cons (pe_cal (g_fallen T) (hr.mono (by decide)) pass0 (pa_cons (pv 3) pa_nil)) pa_nil))))))
      (pss_one ps_retN)) pss_nil)))
      (pss_one (ps_expr (pe_mth (ks := kTick) T.cTick (by decide +kernel) (m_Tick_put T) (hr.mono (by decide)) pass0 (pv 0) (pa_cons (pv 1) (pa_cons (pv 2) (pa_cons (pe_cal (g_lying T) (hr.mono (by decide)) pass0 (pa_cons (pv 3) pa_nil)) pa_nil))))))), ?_⟩)
  obtain ⟨t, tc, th, s, x, y, v, rfl, hT, ok, i, _, k⟩ := h
  refine ⟨_, rfl, (by show 2 ≤ sizeLine; decide), fun p hp => ⟨p, rfl, ⟨_, SqT.of upd_same⟩, for_tup (K := K) (a := p) (xs := [.int (-1), .int 1])
    (fun i σ H' => ∃ o, σ = [some (.ref t), some (.int x), some (.int y), some (.int (v : Nat)), o] ∧ Same (upd H p (.tup [.int (-1), .int 1])) H' ∧ ∀ j, j < i → ¬ freeM s x y (sideM j))
    ⟨none, rfl, fun _ _ h => h, fun j hj => absurd hj (Nat.not_lt_zero _)⟩ (fun i σ H' _ ⟨_, _, e, _⟩ => SqT.of (e _ _ upd_same)) ?_ ?_⟩⟩
  · rintro n z σ H' hz ⟨o, rfl, e, no⟩
    have hn : z = .int (sideM n) ∧ n ≤ 1 := by
      match n, hz with
      | 0, hz => exact ⟨(Option.some.inj hz).symm, by omega⟩
      | 1, hz => exact ⟨(Option.some.inj hz).symm, by omega⟩
      | n + 2, hz => simp at hz
    obtain ⟨rfl, hn⟩ := hn
    have e1 : Same H H' := fun b u q => e b u (same_new hp b u q)
    have hT1 := hT.mono e1
    obtain ⟨d1, ht1⟩ := hT1.t
    have nxt : ¬ freeM s x y (sideM n) → ∃ o, ([some (V.ref t), some (.int x), some (.int y), some (.int (v : Nat)), some (.int (sideM n))] : L2.St) = [some (.ref t), some (.int x), some (.int y), some (.int (v : Nat)), o] ∧ Same (upd H p (.tup [.int (-1), .int 1])) H' ∧ ∀ j, j < n + 1 → ¬ freeM s x y (sideM j) := fun nf =>
      ⟨_, rfl, e, fun j hj => by
        rcases Nat.lt_or_eq_of_le (Nat.lt_succ_iff.mp hj) with q | q
        · exact no j q
        · rw [q]; exact nf⟩
    refine ⟨_, rfl, _, _, _, rfl, ht1, _, rfl, _, rfl, _, _, rfl, rfl, _, rfl, t, tc, th, s, _, _, rfl, hT1, ok, rfl, _, rfl, ?_⟩
    refine if_e (m := 0) (fun c1 => ?_) fun c1 => ?_
    · refine ⟨_, rfl, _, _, _, rfl, ht1, _, rfl, _, rfl, _, _, rfl, rfl, _, rfl, _, _, rfl, rfl, t, tc, th, s, _, _, rfl, hT1, ok, rfl, _, rfl, ?_⟩
      refine if_e (m := 0) (fun c2 => ?_) fun c2 => ?_
      · have j1 : inR s (x + sideM n) (y + 0) := by rw [Int.add_zero]; exact at_in (by rw [c1]; decide)
        refine ⟨_, rfl, _, _, _, rfl, ht1, _, rfl, _, rfl, _, rfl, (by show 2 ≤ sizeLine; decide), fun q hq => ⟨_, rfl, v, rfl, fun H2 e2 => ?_⟩⟩
        have e3 : Same H' H2 := fun b u z => e2 b u (same_new hq b u z)
        have e4 : Same H H2 := fun b u z => e3 b u (e1 b u z)
        have hT2 := hT.mono e4
        obtain ⟨d2, ht2⟩ := hT2.t
        have nq : q ∉ [t, tc, th] := fun z => by
          simp only [List.mem_cons, List.not_mem_nil, or_false] at z
          rcases z with z | z | z
          · rw [z, ht1] at hq; cases hq
          · rw [z, hT1.c] at hq; cases hq
          · rw [z, hT1.d] at hq; cases hq
        refine ⟨t, tc, th, s, x, y, sideM n, 0, fallenM v, q, rfl, hT2, ok, i, j1, fun H3 f3 => SqT.of (f3 _ _ (e2 _ _ upd_same) nq), fun H3 hT3 f3 => ?_⟩
        refine k _ ?_ ((Fr.same e4).trans f3)
        unfold rollM
        match n, hn, no, c1, c2, hT3 with
        | 0, _, no, c1, c2, hT3 =>
          rw [if_pos (show freeM s x y (-1) from ⟨c1, c2⟩)]
          exact hT3
        | 1, _, no, c1, c2, hT3 =>
          rw [if_neg (show ¬ freeM s x y (-1) from no 0 (by omega)), if_pos (show freeM s x y 1 from ⟨c1, c2⟩)]
          exact hT3
      · exact nxt fun z => c2 z.2
    · exact if_n rfl (nxt fun z => c1 z.1)
  · rintro σ H' ⟨o, rfl, e, no⟩
    have e1 : Same H H' := fun b u q => e b u (same_new hp b u q)
    have hT1 := hT.mono e1
    obtain ⟨d1, ht1⟩ := hT1.t
    refine ⟨_, rfl, _, _, _, rfl, ht1, _, rfl, _, rfl, _, rfl, v, rfl, fun H2 e2 => ?_⟩
    have e4 : Same H H2 := fun b u z => e2 b u (e1 b u z)
    refine ⟨t, tc, th, s, x, y, lyingM v, rfl, hT.mono e4, ok, i, fun H3 hT3 f3 => ?_⟩
    refine k _ ?_ ((Fr.same e4).trans f3)
    unfold rollM
    rw [if_neg (show ¬ freeM s x y (-1) from no 0 (by simp)), if_neg (show ¬ freeM s x y 1 from no 1 (by simp))]
    exact hT3
/-- the instance's standing and points changed -/
theorem TickAt.put {H : Hp} {t tc th : Addr} {s : TS} (T : TickAt A H t tc th s) {dx : Addr} {a b : Nat} : TickAt A (upd H t (.ins A.tick dx (kz kTick [.int s.w, .int s.h, .ref tc, .ref th, .int (a : Nat), .int (b : Nat)]))) t tc th { s with st := a, pts := b } :=
  ⟨T.ne, ⟨dx, upd_same⟩, by rw [upd_ne (Ne.symm T.ntc)]; exact T.c, by rw [upd_ne (Ne.symm T.nth)]; exact T.d⟩
theorem tup_in {v : Nat} {a b : Nat} (h : (if false = true then !inV (.int (v : Int)) [.int (a : Int), .int (b : Int)] else inV (.int (v : Int)) [.int (a : Int), .int (b : Int)]) = true) : v = a ∨ v = b := of_decide_eq_true ((in2 v a b).symm.trans h)
theorem tup_no {v : Nat} {a b : Nat} (h : (if false = true then !inV (.int (v : Int)) [.int (a : Int), .int (b : Int)] else inV (.int (v : Int)) [.int (a : Int), .int (b : Int)]) = false) : ¬ (v = a ∨ v = b) := of_decide_eq_false ((in2 v a b).symm.trans h)
theorem m_Tick_fall (T : Txt K mg A) : MethOk P w K mg base CX0 5 A.tick "fall" ["self", "x", "y", "thing"] (spPart A (fun _ _ _ _ => True) fallM) := by
  refine T.d_Tick_fall.ok (N := ["self", "x", "y", "thing", "below"]) sc_Tick_fall (fun vs H Q E h => (by first | (obtain ⟨rfl, _⟩ := h; rfl) | (obtain ⟨_, rfl, _⟩ := h; rfl) | (obtain ⟨_, _, rfl, _⟩ := h; rfl) | (obtain ⟨_, _, _, rfl, _⟩ := h; rfl) | (obtain ⟨_, _, _, _, rfl, _⟩ := h; rfl) | (obtain ⟨_, _, _, _, _, rfl, _⟩ := h; rfl) | (obtain ⟨_, _, _, _, _, _, rfl, _⟩ := h; rfl) | (obtain ⟨_, _, _, _, _, _, _, rfl, _⟩ := h; rfl) | (obtain ⟨_, _, _, _, _, _, _, _, rfl, _⟩ := h; rfl) | (obtain ⟨_, _, _, _, _, _, _, _, _, rfl, _⟩ := h; rfl) | (obtain ⟨_, _, _, _, _, _, _, _, _, _, rfl, _⟩ := h; rfl) | (obtain ⟨_, _, _, _, _, _, _, _, _, _, _, rfl, _⟩ := h; rfl) | (obtain ⟨_, _, _, _, _, _, _, _, _, _, _, _, rfl, _⟩ := h; rfl) | (obtain ⟨_, _, _, _, _, _, _, _, _, _, _, _, _, rfl, _⟩ := h; rfl) | (obtain ⟨rfl⟩ := h; rfl) | (obtain ⟨_, rfl⟩ := h; rfl) | (obtain ⟨_, _, rfl⟩ := h; rfl) | (obtain ⟨_, _, _, rfl⟩ := h; rfl) | (obtain ⟨_, _, _, _, rfl⟩ := h; rfl) | (obtain ⟨_, _, _, _, _, rfl⟩ := h; rfl) | (obtain ⟨_, _, _, _, _, _, rfl⟩ := h; rfl) | (obtain ⟨_, _, _, _, _, _, _, rfl⟩ := h; rfl) | (obtain ⟨_, _, _, _, _, _, _, _, rfl⟩ := h; rfl) | (obtain ⟨_, _, _, _, _, _, _, _, _, rfl⟩ := h; rfl) | (obtain ⟨_, _, _, _, _, _, _, _, _, _, rfl⟩ := h; rfl) | (obtain ⟨_, _, _, _, _, _, _, _, _, _, _, rfl⟩ := h; rfl) | (obtain ⟨_, _, _, _, _, _, _, _, _, _, _, _, rfl⟩ := h; rfl) | (obtain ⟨_, _, _, _, _, _, _, _, _, _, _, _, _, rfl⟩ := h; rfl))) (fun _ _ _ _ _ _ us hl => match us, hl with | [_, _, _, _], _ => rfl) (fun f cdv A0 outer s H vs Q E hr h => ⟨_, (pss_cons (ps_set (i := 4) sc_Tick_fall.nd rfl (by first | exact Or.inl rfl | exact Or.inr rfl) (pe_mth (ks := kTick) T.cTick (by decide +kernel) (m_Tick_at T) (hr.mono (by decide)) pass0 (pv 0) (pa_cons (pv 1) (pa_cons (pe_op op_add (pv 2) pe_int) pa_nil))))
      (pss_one (ps_if (pt_cmpR op_eq (pv 4) (pe_gi T.i_NOTHING) (nomark _)) (pss_one (ps_expr (pe_mth (ks := kTick) T.cTick (by decide +kernel) (m_Tick_go T) (hr.mono (by decide)) pass0 (pv 0) (pa_cons (pv 1) (pa_cons (pv 2) (pa_cons (pe_gr T.g_DOWN) (pa_cons (pe_cal (g_fallen T) (hr.mono (by decide)) pass0 (pa_cons (pv 3) pa_nil)) pa_nil))))))) (pss_one (ps_if (PW.pt (pw_and (pt_cmpR op_in_seq (pv 3) (pe_gr T.g_FALLING) (by rfl)) (pw_and1 (pt_cmpR op_eq (pv 4) (pe_gi T.i_PLAYER) (nomark _))))) (pss_cons (ps_expr (pe_mth (ks := kTick) T.cTick (by decide +kernel) (m_Tick_go T) (hr.mono (by decide)) pass0 (pv 0) (pa_cons (pv 1) (pa_cons (pv 2) (pa_cons (pe_gr T.g_DOWN) (pa_cons (pe_cal (g_lying T) (hr.mono (by decide)) pass0 (pa_cons (pv 3) pa_nil)) pa_nil))))))
      (pss_one (ps_put (ks := kTick) (i := 4) T.cTick T.nTick_standing (by decide +kernel) (by decide) (pv 0) (pe_gi T.i_LOST) rfl))) (pss_one (ps_if (PW.pt (pw_and (pt_cmpR op_in_seq (pv 3) (pe_gr T.g_FALLING) (by rfl)) (pw_and1 (pt_val (pe_cal (g_is_monster T) (hr.mono (by decide)) pass0 (pa_cons (pv 4) pa_nil)))))) (pss_cons (ps_expr (pe_mth (ks := kTick) T.cTick (by decide +kernel) (m_Tick_arrive T) (hr.mono (by decide)) pass0 (pv 0) (pa_cons (pv 1) (pa_cons (pe_op op_add (pv 2) pe_int) (pa_cons (pe_gi T.i_GEM) pa_nil)))))
      (pss_cons (ps_expr (pe_mth (ks := kTick) T.cTick (by decide +kernel) (m_Tick_put T) (hr.mono (by decide)) pass0 (pv 0) (pa_cons (pv 1) (pa_cons (pv 2) (pa_cons (pe_cal (g_lying T) (hr.mono (by decide)) pass0 (pa_cons (pv 3) pa_nil)) pa_nil)))))
      (pss_one (ps_put (ks := kTick) (i := 5) T.cTick T.nTick_points (by decide +kernel) (by decide) (pv 0) (pe_op op_add (pe_get (ks := kTick) (i := 5) T.cTick T.nTick_points (by decide +kernel) (pv 0)) (pe_gi T.i_FOR_MONSTER)) rfl)))) (pss_one (ps_if (pt_cmpR op_in_seq (pv 4) (pe_gr T.g_LYING) (by rfl)) (pss_one (ps_expr (pe_mth (ks := kTick) T.cTick (by decide +kernel) (m_Tick_roll T) (hr.mono (by decide)) pass0 (pv 0) (pa_cons (pv 1) (pa_cons (pv 2) (pa_cons (pv 3) pa_nil)))))) (pss_one (ps_expr (pe_mth (ks := kTick) T.cTick (by decide +kernel) (m_Tick_put T) (hr.mono (by decide)) pass0 (pv 0) (pa_cons (pv 1) (pa_cons (pv 2) (pa_cons (pe_cal (g_lying T) (hr.mono (by decide)) pass0 (pa_cons (pv 3) pa_nil)) pa_nil))))))))))))))), ?_⟩)
  obtain ⟨t, tc, th, s, x, y, v, rfl, hT, ok, i, _, k⟩ := h
  obtain ⟨d0, ht⟩ := hT.t
  have hk : ∀ {H'}, TickAt A H' t tc th (fallM s x y v) → Fr [t, tc, th] H H' → Q .non H' := fun {H'} => k H'
  clear k
  unfold fallM at hk
  dsimp only at hk
  refine ⟨_, rfl, _, _, _, rfl, ht, _, rfl, _, rfl, _, _, rfl, rfl, t, tc, th, s, _, _, rfl, hT, ok, ?_⟩
  generalize hb : atM s x (y + 1) = b at hk ⊢
  refine ⟨_, rfl, rfl, _, rfl, ?_⟩
  refine if_e (m := 0) (fun c1 => ?_) fun c1 => ?_
  · have j : inR s (x + 0) (y + 1) := by rw [Int.add_zero]; exact at_in (by rw [hb, c1]; decide)
    refine ⟨_, rfl, _, _, _, rfl, ht, _, rfl, _, rfl, _, rfl, v, rfl, fun H1 e1 => ?_⟩
    refine ⟨t, tc, th, s, x, y, 0, 1, fallenM v, A.down, rfl, hT.mono e1, ok, i, j, fun _ _ => T.t_DOWN.sq, fun H2 hT2 f2 => hk ?_ ((Fr.same e1).trans f2)⟩
    rw [if_pos c1]
    exact hT2
  rw [if_neg c1] at hk
  refine ⟨_, rfl, _, _, rfl, .inr T.t_FALLING.sq, rfl, rfl, _, rfl, ?_⟩
  have rest : ¬ ((v = 4 ∨ v = 6) ∧ b = 7) → ¬ ((v = 4 ∨ v = 6) ∧ monsterM b = true) → ∀ (D : Ends), D.nx = (fun _ H' => Q .non H') → D.rt = Q → (tIfS (tTest (tOp (rIn K false) (tVar 4) (tC (.ref A.lyingT)))) (tDrop (tMth A.tick kTick (spPart A (fun _ _ _ _ => True) rollM) E0 (tVar 0) (tCons (tVar 1) (tCons (tVar 2) (tCons (tVar 3) tNil))))) (tDrop (tMth A.tick kTick (spPut A) E0 (tVar 0) (tCons (tVar 1) (tCons (tVar 2) (tCons (tCal spLying E0 (tCons (tVar 3) tNil)) tNil)))))) D [some (.ref t), some (.int x), some (.int y), some (.int (v : Nat)), some (.int (b : Nat))] H := fun n1 n2 D hnx hrt => by
    rw [if_neg n1, if_neg n2] at hk
    refine ⟨_, rfl, _, _, rfl, .inr T.t_LYING.sq, rfl, rfl, _, rfl, ?_⟩
    refine if_b (fun c5 => ?_) fun c5 => ?_
    · rw [if_pos (tup_in c5)] at hk
      refine ⟨_, rfl, _, _, _, rfl, ht, _, rfl, _, rfl, _, rfl, ?_⟩
      refine ⟨t, tc, th, s, x, y, v, rfl, hT, ok, i, trivial, fun H1 hT1 f1 => ?_⟩
      rw [hnx]
      exact hk hT1 f1
    · rw [if_neg (tup_no c5)] at hk
      refine ⟨_, rfl, _, _, _, rfl, ht, _, rfl, _, rfl, _, rfl, v, rfl, fun H1 e1 => ?_⟩
      refine ⟨t, tc, th, s, x, y, lyingM v, rfl, hT.mono e1, ok, i, fun H2 hT2 f2 => ?_⟩
      rw [hnx]
      exact hk hT2 ((Fr.same e1).trans f2)
  have third : ¬ ((v = 4 ∨ v = 6) ∧ b = 7) → ∀ (D : Ends), D.nx = (fun _ H' => Q .non H') → D.rt = Q → (tIfS (tAnd (tTest (tOp (rIn K false) (tVar 3) (tC (.ref A.falling)))) (tB (tCal spMonster E0 (tCons (tVar 4) tNil)))) (tSeq (tDrop (tMth A.tick kTick (spArrive A) E0 (tVar 0) (tCons (tVar 1) (tCons (tOp (rI0 fun i j => .int (i + j)) (tVar 2) (tC (.int 1))) (tCons (tC (.int 5)) tNil)))))
      (tSeq (tDrop (tMth A.tick kTick (spPut A) E0 (tVar 0) (tCons (tVar 1) (tCons (tVar 2) (tCons (tCal spLying E0 (tCons (tVar 3) tNil)) tNil))))) (sPut A.tick kTick 5 (tVar 0) (tOp (rI0 fun i j => .int (i + j)) (tGet A.tick kTick 5 (tVar 0)) (tC (.int 20))))))
      (tIfS (tTest (tOp (rIn K false) (tVar 4) (tC (.ref A.lyingT)))) (tDrop (tMth A.tick kTick (spPart A (fun _ _ _ _ => True) rollM) E0 (tVar 0) (tCons (tVar 1) (tCons (tVar 2) (tCons (tVar 3) tNil))))) (tDrop (tMth A.tick kTick (spPut A) E0 (tVar 0) (tCons (tVar 1) (tCons (tVar 2) (tCons (tCal spLying E0 (tCons (tVar 3) tNil)) tNil))))))) D [some (.ref t), some (.int x), some (.int y), some (.int (v : Nat)), some (.int (b : Nat))] H := fun n1 D hnx hrt => by
    refine ⟨_, rfl, _, _, rfl, .inr T.t_FALLING.sq, rfl, rfl, _, rfl, ?_⟩
    refine if_b (fun c3 => ?_) fun c3 => ?_
    · refine ⟨_, rfl, b, rfl, _, rfl, ?_⟩
      refine if_b (fun c4 => ?_) fun c4 => ?_
      · rw [if_neg n1, if_pos ⟨tup_in c3, c4⟩] at hk
        have j : inR s x (y + 1) := at_in (by rw [hb]; have := of_decide_eq_true c4; omega)
        refine ⟨_, rfl, _, _, _, rfl, ht, _, rfl, _, rfl, _, _, rfl, rfl, ?_⟩
        refine ⟨t, tc, th, s, x, y + 1, 5, rfl, hT, ok, j, fun H1 hT1 f1 => ?_⟩
        obtain ⟨d1, ht1⟩ := hT1.t
        refine ⟨_, rfl, _, _, _, rfl, ht1, _, rfl, _, rfl, _, rfl, v, rfl, fun H2 e2 => ?_⟩
        refine ⟨t, tc, th, _, x, y, lyingM v, rfl, hT1.mono e2, arriveM_ok ok (by omega), i, fun H3 hT3 f3 => ?_⟩
        obtain ⟨d3, ht3⟩ := hT3.t
        refine ⟨_, rfl, _, _, _, _, rfl, ht3, rfl, _, _, rfl, rfl, _, rfl, _, _, _, rfl, ht3, (by show 5 < 6; decide), ?_⟩
        rw [hnx]
        have hT4 := hT3.put (dx := d3) (a := s.st) (b := s.pts + 20)
        exact hk hT4 ((f1.trans ((Fr.same e2).trans f3)).upd (by simp))
      · exact rest n1 (fun z => by rw [c4] at z; exact absurd z.2 (by decide)) D hnx hrt
    · exact if_n rfl (rest n1 (fun z => tup_no c3 z.1) D hnx hrt)
  refine if_b (fun c2 => ?_) fun c2 => ?_
  · refine ⟨_, rfl, rfl, _, rfl, ?_⟩
    refine if_e (m := 7) (fun c3 => ?_) fun c3 => ?_
    · rw [if_pos ⟨tup_in c2, c3⟩] at hk
      have j : inR s (x + 0) (y + 1) := by rw [Int.add_zero]; exact at_in (by rw [hb, c3]; decide)
      refine ⟨_, rfl, _, _, _, rfl, ht, _, rfl, _, rfl, _, rfl, v, rfl, fun H1 e1 => ?_⟩
      refine ⟨t, tc, th, s, x, y, 0, 1, lyingM v, A.down, rfl, hT.mono e1, ok, i, j, fun _ _ => T.t_DOWN.sq, fun H2 hT2 f2 => ?_⟩
      obtain ⟨d2, ht2⟩ := hT2.t
      refine ⟨_, rfl, _, _, _, rfl, ht2, (by show 4 < 6; decide), ?_⟩
      have hT3 := hT2.put (dx := d2) (a := 2) (b := s.pts)
      exact hk hT3 (((Fr.same e1).trans f2).upd (by simp))
    · exact third (fun z => c3 z.2) _ rfl rfl
  · exact if_n rfl (third (fun z => tup_no c2 z.1) _ rfl rfl)
end
end SC
/-! SC5: ticks, the player, the monsters, a turn. -/
namespace SC
open PySem PySem.Spec PyProof.Rows L2
def Ad.way (A : Ad) (k : Nat) : Addr := if k = 0 then A.w0 else if k = 1 then A.w1 else if k = 2 then A.w2 else A.w3
theorem way_at (A : Ad) {k : Nat} (h : k < 4) : ([.ref A.w0, .ref A.w1, .ref A.w2, .ref A.w3] : List V)[k]? = some (.ref (A.way k)) := by
  match k, h with
  | 0, _ => rfl
  | 1, _ => rfl
  | 2, _ => rfl
  | 3, _ => rfl
theorem way_t {K : PySem.W.Frag} {mg : Str → Option Value} {A : Ad} (T : Txt K mg A) {k : Nat} (h : k < 4) : TupAt K (A.way k) [.int (wayX k), .int (wayY k)] := by
  match k, h with
  | 0, _ => exact T.t_w0
  | 1, _ => exact T.t_w1
  | 2, _ => exact T.t_w2
  | 3, _ => exact T.t_w3
theorem in4 (v a b c d : Nat) : inV (.int (v : Int)) [.int (a : Int), .int (b : Int), .int (c : Int), .int (d : Int)] = decide (v = a ∨ v = b ∨ v = c ∨ v = d) := by
  show (((a : Int) == (v : Int)) || (((b : Int) == (v : Int)) || (((c : Int) == (v : Int)) || (((d : Int) == (v : Int)) || false)))) = _
  rw [Bool.eq_iff_iff]
  simp only [Bool.or_eq_true, beq_iff_eq, decide_eq_true_eq, Bool.or_false]
  omega
section
variable {P : Program} {w : World} {K : PySem.W.Frag} {mg : Str → Option Value} {base : Heap} {A : Ad}
theorem sc_Tick_play : FnScope ["self", "x", "y", "key", "way", "there"] ["self", "x", "y", "key"] (defScope (inClass (topS 36) 7)) := ⟨rfl, rfl, rfl, by decide +kernel, rfl, by decide +kernel, by decide +kernel⟩
theorem sc_Tick_walk : FnScope ["self", "x", "y", "thing", "looks", "own", "way"] ["self", "x", "y", "thing"] (defScope (inClass (topS 36) 10)) := ⟨rfl, rfl, rfl, by decide +kernel, rfl, by decide +kernel, by decide +kernel⟩
theorem sc_Tick_turn : FnScope ["self", "x", "y", "key", "thing"] ["self", "x", "y", "key"] (defScope (inClass (topS 36) 11)) := ⟨rfl, rfl, rfl, by decide +kernel, rfl, by decide +kernel, by decide +kernel⟩
theorem m_Tick_play (T : Txt K mg A) : MethOk P w K mg base CX0 5 A.tick "play" ["self", "x", "y", "key"] (spPart A (fun _ _ _ k => k ≤ 4) playM) := by
  refine T.d_Tick_play.ok (N := ["self", "x", "y", "key", "way", "there"]) sc_Tick_play (fun vs H Q E h => (by first | (obtain ⟨rfl, _⟩ := h; rfl) | (obtain ⟨_, rfl, _⟩ := h; rfl) | (obtain ⟨_, _, rfl, _⟩ := h; rfl) | (obtain ⟨_, _, _, rfl, _⟩ := h; rfl) | (obtain ⟨_, _, _, _, rfl, _⟩ := h; rfl) | (obtain ⟨_, _, _, _, _, rfl, _⟩ := h; rfl) | (obtain ⟨_, _, _, _, _, _, rfl, _⟩ := h; rfl) | (obtain ⟨_, _, _, _, _, _, _, rfl, _⟩ := h; rfl) | (obtain ⟨_, _, _, _, _, _, _, _, rfl, _⟩ := h; rfl) | (obtain ⟨_, _, _, _, _, _, _, _, _, rfl, _⟩ := h; rfl) | (obtain ⟨_, _, _, _, _, _, _, _, _, _, rfl, _⟩ := h; rfl) | (obtain ⟨_, _, _, _, _, _, _, _, _, _, _, rfl, _⟩ := h; rfl) | (obtain ⟨_, _, _, _, _, _, _, _, _, _, _, _, rfl, _⟩ := h; rfl) | (obtain ⟨_, _, _, _, _, _, _, _, _, _, _, _, _, rfl, _⟩ := h; rfl) | (obtain ⟨rfl⟩ := h; rfl) | (obtain ⟨_, rfl⟩ := h; rfl) | (obtain ⟨_, _, rfl⟩ := h; rfl) | (obtain ⟨_, _, _, rfl⟩ := h; rfl) | (obtain ⟨_, _, _, _, rfl⟩ := h; rfl) | (obtain ⟨_, _, _, _, _, rfl⟩ := h; rfl) | (obtain ⟨_, _, _, _, _, _, rfl⟩ := h; rfl) | (obtain ⟨_, _, _, _, _, _, _, rfl⟩ := h; rfl) | (obtain ⟨_, _, _, _, _, _, _, _, rfl⟩ := h; rfl) | (obtain ⟨_, _, _, _, _, _, _, _, _, rfl⟩ := h; rfl) | (obtain ⟨_, _, _, _, _, _, _, _, _, _, rfl⟩ := h; rfl) | (obtain ⟨_, _, _, _, _, _, _, _, _, _, _, rfl⟩ := h; rfl) | (obtain ⟨_, _, _, _, _, _, _, _, _, _, _, _, rfl⟩ := h; rfl) | (obtain ⟨_, _, _, _, _, _, _, _, _, _, _, _, _, rfl⟩ := h; rfl))) (fun _ _ _ _ _ _ us hl => match us, hl with | [_, _, _, _], _ => rfl) (fun f cdv A0 outer s H vs Q E hr h => ⟨_, (pss_cons (ps_if (pt_cmpR op_eq (pv 3) pe_int (nomark _)) (pss_one ps_retN) pss_nil)
      (pss_cons (ps_set (i := 4) sc_Tick_play.nd rfl (by first | exact Or.inl rfl | exact Or.inr rfl) (pe_ix ix_tup (pe_gr T.g_WAYS) (pe_op op_sub (pv 3) pe_int) (fun _ _ => rfl)))
      (pss_cons (ps_set (i := 5) sc_Tick_play.nd rfl (by first | exact Or.inl rfl | exact Or.inr rfl) (pe_mth (ks := kTick) T.cTick (by decide +kernel) (m_Tick_at T) (hr.mono (by decide)) pass0 (pv 0) (pa_cons (pe_op op_add (pv 1) (pe_ix ix_tup (pv 4) pe_int (fun _ _ => rfl))) (pa_cons (pe_op op_add (pv 2) (pe_ix ix_tup (pv 4) pe_int (fun _ _ => rfl))) pa_nil))))
      (pss_one (ps_if (pt_cmpR op_in_seq (pv 5) (pe_tup (pa_cons (pe_gi T.i_NOTHING) (pa_cons (pe_gi T.i_EARTH) (pa_cons (pe_gi T.i_GEM) (pa_cons (pe_gi T.i_FALLING_GEM) pa_nil))))) (by rfl)) (pss_cons (ps_expr (pe_mth (ks := kTick) T.cTick (by decide +kernel) (m_Tick_go T) (hr.mono (by decide)) pass0 (pv 0) (pa_cons (pv 1) (pa_cons (pv 2) (pa_cons (pv 4) (pa_cons (pe_gi T.i_PLAYER) pa_nil))))))
      (pss_one (ps_put (ks := kTick) (i := 5) T.cTick T.nTick_points (by decide +kernel) (by decide) (pv 0) (pe_op op_add (pe_get (ks := kTick) (i := 5) T.cTick T.nTick_points (by decide +kernel) (pv 0)) (pe_op op_mul (pe_gi T.i_FOR_GEM) (pe_callTy call_int1 (by rfl) T.b_int (by decide +kernel) (pa_cons (pe_cmpR op_in_seq (pv 5) (pe_tup (pa_cons (pe_gi T.i_GEM) (pa_cons (pe_gi T.i_FALLING_GEM) pa_nil))) (by rfl)) pa_nil)))) rfl))) (pss_one (ps_if (pt_cmpR op_eq (pv 5) (pe_gi T.i_STONE) (nomark _)) (pss_one (ps_expr (pe_mth (ks := kTick) T.cTick (by decide +kernel) (m_Tick_push T) (hr.mono (by decide)) pass0 (pv 0) (pa_cons (pv 1) (pa_cons (pv 2) (pa_cons (pv 4) pa_nil)))))) (pss_one (ps_if (PW.pt (pw_and (pt_cmpR op_eq (pv 5) (pe_gi T.i_EXIT) (nomark _)) (pw_and1 (pt_not (pt_val (pe_mth0 (ks := kTick) T.cTick (by decide +kernel) (m_Tick_have_gems T) (hr.mono (by decide)) pass0 (pv 0))))))) (pss_cons (ps_expr (pe_mth (ks := kTick) T.cTick (by decide +kernel) (m_Tick_put T) (hr.mono (by decide)) pass0 (pv 0) (pa_cons (pv 1) (pa_cons (pv 2) (pa_cons (pe_gi T.i_NOTHING) pa_nil)))))
      (pss_cons (ps_put (ks := kTick) (i := 5) T.cTick T.nTick_points (by decide +kernel) (by decide) (pv 0) (pe_op op_add (pe_get (ks := kTick) (i := 5) T.cTick T.nTick_points (by decide +kernel) (pv 0)) (pe_gi T.i_FOR_EXIT)) rfl)
      (pss_one (ps_put (ks := kTick) (i := 4) T.cTick T.nTick_standing (by decide +kernel) (by decide) (pv 0) (pe_gi T.i_WON) rfl)))) pss_nil))))))))), ?_⟩)
  obtain ⟨t, tc, th, s, x, y, key, rfl, hT, ok, i, hkey, k⟩ := h
  obtain ⟨d0, ht⟩ := hT.t
  have hk : ∀ {H'}, TickAt A H' t tc th (playM s x y key) → Fr [t, tc, th] H H' → Q .non H' := fun {H'} => k H'
  clear k
  unfold playM at hk
  refine ⟨_, rfl, rfl, _, rfl, ?_⟩
  refine if_e (m := 0) (fun c0 => ?_) fun c0 => ?_
  · rw [if_pos c0] at hk
    exact hk hT (Fr.refl _ _)
  rw [if_neg c0] at hk
  dsimp only at hk
  have hn : key - 1 < 4 := by omega
  have hw := way_t T hn
  generalize hdx : wayX (key - 1) = dx at hk hw
  generalize hdy : wayY (key - 1) = dy at hk hw
  refine ⟨_, rfl, _, _, rfl, rfl, _, _, _, _, rfl, rfl, T.t_WAYS.sq, at_ix (j := key - 1) (by omega) (way_at A hn), ?_⟩
  refine ⟨_, rfl, _, _, _, rfl, ht, _, rfl, _, rfl, _, _, _, _, rfl, rfl, hw.sq, at_ix (j := 0) rfl rfl, _, _, rfl, rfl, _, rfl, _, rfl, _, _, _, _, rfl, rfl, hw.sq, at_ix (j := 1) rfl rfl, _, _, rfl, rfl, ?_⟩
  refine ⟨t, tc, th, s, _, _, rfl, hT, ok, ?_⟩
  generalize hv : atM s (x + dx) (y + dy) = v at hk ⊢
  have hin : v ≠ 2 → inR s (x + dx) (y + dy) := fun z => at_in (by rw [hv]; exact z)
  refine ⟨_, rfl, (by show 4 ≤ sizeLine; decide), fun p hp => ⟨p, _, rfl, .inr (SqT.of upd_same), rfl, rfl, _, rfl, ?_⟩⟩
  have e1 : Same H (upd H p (.tup [.int 0, .int 1, .int 5, .int 6])) := same_new hp
  have hT1 := hT.mono e1
  obtain ⟨d1, ht1⟩ := hT1.t
  generalize hH1 : upd H p (.tup [.int 0, .int 1, .int 5, .int 6]) = H1 at e1 hT1 ht1 ⊢
  rw [show (if false = true then !inV (.int (v : Int)) [.int 0, .int 1, .int 5, .int 6] else inV (.int (v : Int)) [.int 0, .int 1, .int 5, .int 6]) = decide (v = 0 ∨ v = 1 ∨ v = 5 ∨ v = 6) from in4 v 0 1 5 6]
  refine if_d (fun c1 => ?_) fun c1 => ?_
  · rw [if_pos c1] at hk
    refine ⟨_, rfl, _, _, _, rfl, ht1, _, rfl, _, rfl, _, rfl, ?_⟩
    refine ⟨t, tc, th, s, x, y, dx, dy, 7, _, rfl, hT1, ok, i, hin (by omega), fun _ _ => hw.sq, fun H2 hT2 f2 => ?_⟩
    obtain ⟨d2, ht2⟩ := hT2.t
    refine ⟨_, rfl, _, _, _, _, rfl, ht2, rfl, _, rfl, (by show 2 ≤ sizeLine; decide), fun q hq => ⟨q, _, rfl, .inr (SqT.of upd_same), rfl, rfl, .inr ⟨_, rfl, _, _, rfl, rfl, .inl ⟨by decide, by decide⟩, _, _, rfl, rfl, ?_⟩⟩⟩
    have hT3 := hT2.mono (same_new (o := .tup [.int 5, .int 6]) hq)
    obtain ⟨d3, ht3⟩ := hT3.t
    refine ⟨_, rfl, _, _, _, rfl, ht3, (by show 5 < 6; decide), ?_⟩
    have hT4 := hT3.put (dx := d3) (a := s.st) (b := s.pts + (if v = 5 ∨ v = 6 then 10 else 0))
    have f4 : Fr [t, tc, th] H (upd (upd H2 q (.tup [.int 5, .int 6])) t (.ins A.tick d3 (kz kTick [.int s.w, .int s.h, .ref tc, .ref th, .int s.st, .int ((s.pts + (if v = 5 ∨ v = 6 then 10 else 0) : Nat) : Int)]))) :=
      (((Fr.same e1).trans f2).trans (Fr.same (same_new hq))).upd (by simp)
    have ev : (s.pts : Int) + 10 * (if (if false = true then !inV (.int (v : Int)) [.int 5, .int 6] else inV (.int (v : Int)) [.int 5, .int 6]) = true then 1 else 0) = ((s.pts + (if v = 5 ∨ v = 6 then 10 else 0) : Nat) : Int) := by
      rw [show (if false = true then !inV (.int (v : Int)) [.int 5, .int 6] else inV (.int (v : Int)) [.int 5, .int 6]) = decide (v = 5 ∨ v = 6) from in2 v 5 6]
      by_cases c : v = 5 ∨ v = 6
      · rw [if_pos c, if_pos (decide_eq_true c)]; omega
      · rw [if_neg c, if_neg (by rw [decide_eq_false c]; exact Bool.false_ne_true)]; omega
    have z := hk hT4 f4
    rw [← ev] at z
    exact z
  rw [if_neg c1] at hk
  refine ⟨_, rfl, rfl, _, rfl, ?_⟩
  refine if_e (m := 3) (fun c2 => ?_) fun c2 => ?_
  · rw [if_pos c2] at hk
    refine ⟨_, rfl, _, _, _, rfl, ht1, _, rfl, _, rfl, _, rfl, ?_⟩
    refine ⟨t, tc, th, s, x, y, dx, dy, _, rfl, hT1, ok, i, hin (by omega), fun _ _ => hw.sq, ?_, fun H2 hT2 f2 => hk hT2 ((Fr.same e1).trans f2)⟩
    rw [← hdx]
    unfold wayX
    split
    · omega
    · split <;> omega
  rw [if_neg c2] at hk
  have nope : ¬ (v = 12 ∧ gemsM s = false) → Q .non H1 := fun n => by
    rw [if_neg n] at hk
    exact hk hT1 (Fr.same e1)
  refine ⟨_, rfl, rfl, _, rfl, ?_⟩
  refine if_e (m := 12) (fun c3 => ?_) fun c3 => ?_
  · refine ⟨_, rfl, _, _, _, rfl, ht1, t, tc, th, s, rfl, hT1, _, rfl, ?_⟩
    cases hg : gemsM s with
    | true => exact if_n rfl (nope (by rw [hg]; exact fun z => absurd z.2 (by decide)))
    | false =>
      refine if_y rfl ?_
      rw [if_pos ⟨c3, hg⟩] at hk
      refine ⟨_, rfl, _, _, _, rfl, ht1, _, rfl, _, rfl, t, tc, th, s, x, y, 0, rfl, hT1, ok, i, fun H2 hT2 f2 => ?_⟩
      obtain ⟨d2, ht2⟩ := hT2.t
      refine ⟨_, rfl, _, _, _, _, rfl, ht2, rfl, _, _, rfl, rfl, _, rfl, _, _, _, rfl, ht2, (by show 5 < 6; decide), ?_⟩
      have hT3 := hT2.put (dx := d2) (a := s.st) (b := s.pts + 100)
      refine ⟨_, rfl, _, _, _, rfl, upd_same, (by show 4 < 6; decide), ?_⟩
      rw [upd_upd]
      have hT4 := hT2.put (dx := d2) (a := 1) (b := s.pts + 100)
      exact hk hT4 (((Fr.same e1).trans f2).upd (by simp))
  · exact if_n rfl (nope fun z => c3 z.1)
theorem m_Tick_walk (T : Txt K mg A) : MethOk P w K mg base CX0 4 A.tick "walk" ["self", "x", "y", "thing"] (spPart A (fun _ _ _ v => 8 ≤ v ∧ v ≤ 11) walkM) := by
  refine T.d_Tick_walk.ok (N := ["self", "x", "y", "thing", "looks", "own", "way"]) sc_Tick_walk (fun vs H Q E h => (by first | (obtain ⟨rfl, _⟩ := h; rfl) | (obtain ⟨_, rfl, _⟩ := h; rfl) | (obtain ⟨_, _, rfl, _⟩ := h; rfl) | (obtain ⟨_, _, _, rfl, _⟩ := h; rfl) | (obtain ⟨_, _, _, _, rfl, _⟩ := h; rfl) | (obtain ⟨_, _, _, _, _, rfl, _⟩ := h; rfl) | (obtain ⟨_, _, _, _, _, _, rfl, _⟩ := h; rfl) | (obtain ⟨_, _, _, _, _, _, _, rfl, _⟩ := h; rfl) | (obtain ⟨_, _, _, _, _, _, _, _, rfl, _⟩ := h; rfl) | (obtain ⟨_, _, _, _, _, _, _, _, _, rfl, _⟩ := h; rfl) | (obtain ⟨_, _, _, _, _, _, _, _, _, _, rfl, _⟩ := h; rfl) | (obtain ⟨_, _, _, _, _, _, _, _, _, _, _, rfl, _⟩ := h; rfl) | (obtain ⟨_, _, _, _, _, _, _, _, _, _, _, _, rfl, _⟩ := h; rfl) | (obtain ⟨_, _, _, _, _, _, _, _, _, _, _, _, _, rfl, _⟩ := h; rfl) | (obtain ⟨rfl⟩ := h; rfl) | (obtain ⟨_, rfl⟩ := h; rfl) | (obtain ⟨_, _, rfl⟩ := h; rfl) | (obtain ⟨_, _, _, rfl⟩ := h; rfl) | (obtain ⟨_, _, _, _, rfl⟩ := h; rfl) | (obtain ⟨_, _, _, _, _, rfl⟩ := h; rfl) | (obtain ⟨_, _, _, _, _, _, rfl⟩ := h; rfl) | (obtain ⟨_, _, _, _, _, _, _, rfl⟩ := h; rfl) | (obtain ⟨_, _, _, _, _, _, _, _, rfl⟩ := h; rfl) | (obtain ⟨_, _, _, _, _, _, _, _, _, rfl⟩ := h; rfl) | (obtain ⟨_, _, _, _, _, _, _, _, _, _, rfl⟩ := h; rfl) | (obtain ⟨_, _, _, _, _, _, _, _, _, _, _, rfl⟩ := h; rfl) | (obtain ⟨_, _, _, _, _, _, _, _, _, _, _, _, rfl⟩ := h; rfl) | (obtain ⟨_, _, _, _, _, _, _, _, _, _, _, _, _, rfl⟩ := h; rfl))) (fun _ _ _ _ _ _ us hl => match us, hl with | [_, _, _, _], _ => rfl) (fun f cdv A0 outer s H vs Q E hr h => ⟨_, (pss_cons (ps_if (pt_cmpR op_in_seq (pe_gi T.i_PLAYER) (pe_lc (own := [("way", 6)]) (g := gName 6) (by rfl) sc_Tick_walk.nd (pi_tup (pe_gr T.g_WAYS)) (blkOk_by (own := [("way", 6)]) (N := ["self", "x", "y", "thing", "looks", "own", "way"]) (sc := defScope (inClass (topS 36) 10)) (by decide +kernel)) (fun _ _ _ _ _ => pg_name (i := 6) sc_Tick_walk.nd rfl (Or.inl rfl)) (fun _ _ _ _ _ => pts_nil) (fun _ _ _ _ _ => (pe_mth (ks := kTick) T.cTick (by decide +kernel) (m_Tick_at T) (hr.mono (by decide)) pass0 (pv 0) (pa_cons (pe_op op_add (pv 1) (pe_ix (ix_tupK (K := K)) (pv 6) pe_int (fun _ _ => rfl))) (pa_cons (pe_op op_add (pv 2) (pe_ix (ix_tupK (K := K)) (pv 6) pe_int (fun _ _ => rfl))) pa_nil))))) (by rfl)) (pss_cons (ps_put (ks := kTick) (i := 4) T.cTick T.nTick_standing (by decide +kernel) (by decide) (pv 0) (pe_gi T.i_LOST) rfl)
      (pss_one ps_retN)) pss_nil)
      (pss_cons (ps_set (i := 4) sc_Tick_walk.nd rfl (by first | exact Or.inl rfl | exact Or.inr rfl) (pe_op op_sub (pv 3) (pe_gi T.i_FIRST_MONSTER)))
      (pss_cons (ps_for PassesOwn.never rfl (pi_tup (pe_tup (pa_cons (pe_op op_mod (pe_op op_add (pv 4) pe_int) pe_int) (pa_cons (pv 4) pa_nil)))) (pg_name (i := 5) sc_Tick_walk.nd rfl (by first | exact Or.inl rfl | exact Or.inr rfl)) (pss_one (ps_if (pt_cmpR op_eq (pe_mth (ks := kTick) T.cTick (by decide +kernel) (m_Tick_at T) (hr.mono (by decide)) pass0 (pv 0) (pa_cons (pe_op op_add (pv 1) (pe_ix ix_tup (pe_ix ix_tup (pe_gr T.g_WAYS) (pv 5) (fun _ _ => rfl)) pe_int (fun _ _ => rfl))) (pa_cons (pe_op op_add (pv 2) (pe_ix ix_tup (pe_ix ix_tup (pe_gr T.g_WAYS) (pv 5) (fun _ _ => rfl)) pe_int (fun _ _ => rfl))) pa_nil))) (pe_gi T.i_NOTHING) (nomark _)) (pss_cons (ps_expr (pe_mth (ks := kTick) T.cTick (by decide +kernel) (m_Tick_go T) (hr.mono (by decide)) pass0 (pv 0) (pa_cons (pv 1) (pa_cons (pv 2) (pa_cons (pe_ix ix_tup (pe_gr T.g_WAYS) (pv 5) (fun _ _ => rfl)) (pa_cons (pe_op op_add (pe_gi T.i_FIRST_MONSTER) (pv 5)) pa_nil))))))
      (pss_one ps_retN)) pss_nil)))
      (pss_one (ps_expr (pe_mth (ks := kTick) T.cTick (by decide +kernel) (m_Tick_put T) (hr.mono (by decide)) pass0 (pv 0) (pa_cons (pv 1) (pa_cons (pv 2) (pa_cons (pe_op op_add (pe_gi T.i_FIRST_MONSTER) (pe_op op_mod (pe_op op_add (pv 4) pe_int) pe_int)) pa_nil))))))))), ?_⟩)
  obtain ⟨t, tc, th, s, x, y, v, rfl, hT, ok, i, hv, k⟩ := h
  have hk : ∀ {H'}, TickAt A H' t tc th (walkM s x y v) → Fr [t, tc, th] H H' → Q .non H' := fun {H'} => k H'
  clear k
  unfold walkM at hk
  dsimp only at hk
  refine ⟨A.ways, rfl, ⟨_, T.t_WAYS.sq⟩, fun D hD => lc_tup (K := K) (a := A.ways) (xs := [.ref A.w0, .ref A.w1, .ref A.w2, .ref A.w3])
    (fun i H' => H' = upd H D (.lst (vi ((List.range i).map (nearM s x y))))) rfl (fun _ _ _ _ => T.t_WAYS.sq) ?_ ?_⟩
  · rintro n z H' hz rfl
    have hn : n < 4 := by
      have := (List.getElem?_eq_some_iff.mp hz).1
      exact this
    rw [way_at A hn] at hz
    obtain rfl := Option.some.inj hz
    have hT1 := hT.mono (same_new (o := .lst (vi ((List.range n).map (nearM s x y)))) hD)
    obtain ⟨d1, ht1⟩ := hT1.t
    have hw := way_t T hn
    refine ⟨rfl, ?_⟩
    refine ⟨_, rfl, _, _, _, rfl, ht1, _, rfl, _, rfl, _, _, _, _, rfl, rfl, hw.sq, at_ix (j := 0) rfl rfl, _, _, rfl, rfl, _, rfl, _, rfl, _, _, _, _, rfl, rfl, hw.sq, at_ix (j := 1) rfl rfl, _, _, rfl, rfl, ?_⟩
    refine ⟨t, tc, th, s, _, _, rfl, hT1, ok, _, upd_same, small1000 (by rw [vi_len, List.length_map, List.length_range]; omega), ?_⟩
    show upd _ _ _ = _
    rw [upd_upd, List.range_succ, List.map_append]
    unfold vi
    rw [List.map_append]
    rfl
  · rintro H' rfl
    have e1 : Same H (upd H D (.lst (vi ((List.range 4).map (nearM s x y))))) := same_new hD
    have hT1 := hT.mono e1
    obtain ⟨d1, ht1⟩ := hT1.t
    refine ⟨_, _, rfl, .inl (SqL.of upd_same), rfl, flat_vi _, _, rfl, ?_⟩
    have ec : (if false = true then !inV (.int 7) (vi ((List.range 4).map (nearM s x y))) else inV (.int 7) (vi ((List.range 4).map (nearM s x y)))) = decide (nearM s x y 0 = 7 ∨ nearM s x y 1 = 7 ∨ nearM s x y 2 = 7 ∨ nearM s x y 3 = 7) := by
      rw [if_neg Bool.false_ne_true, show (V.int 7) = V.int ((7 : Nat) : Int) from rfl, inV_vi, Bool.eq_iff_iff, List.contains_iff_mem, decide_eq_true_eq, show (List.range 4).map (nearM s x y) = [nearM s x y 0, nearM s x y 1, nearM s x y 2, nearM s x y 3] from rfl]
      simp only [List.mem_cons, List.not_mem_nil, or_false]
      omega
    show if (if false = true then !inV (.int 7) (vi ((List.range 4).map (nearM s x y))) else inV (.int 7) (vi ((List.range 4).map (nearM s x y)))) = true then _ else _
    rw [ec]
    generalize upd H D (.lst (vi ((List.range 4).map (nearM s x y)))) = H1 at e1 hT1 ht1 ⊢
    refine if_d (fun c1 => ?_) fun c1 => ?_
    · rw [if_pos c1] at hk
      refine ⟨_, rfl, _, _, _, rfl, ht1, (by show 4 < 6; decide), ?_⟩
      have hT2 := hT1.put (dx := d1) (a := 2) (b := s.pts)
      exact hk hT2 ((Fr.same e1).upd (by simp))
    rw [if_neg c1] at hk
    refine ⟨_, rfl, _, _, rfl, rfl, ?_⟩
    refine ⟨_, rfl, _, _, rfl, rfl, _, _, rfl, rfl, (by show (0 : Int) < 4; decide), _, rfl, (by show 2 ≤ sizeLine; decide), fun p hp => ⟨p, rfl, ⟨_, SqT.of upd_same⟩, for_tup (K := K) (a := p) (xs := [.int (((v : Int) - 8 + 3) % 4), .int ((v : Int) - 8)])
      (fun i σ H' => ∃ o, σ = [some (.ref t), some (.int x), some (.int y), some (.int (v : Nat)), some (.int ((v : Int) - 8)), o, none] ∧ Same (upd H1 p (.tup [.int (((v : Int) - 8 + 3) % 4), .int ((v : Int) - 8)])) H' ∧ (0 < i → nearM s x y ((v - 8 + 3) % 4) ≠ 0) ∧ (1 < i → nearM s x y (v - 8) ≠ 0))
      ⟨none, rfl, fun _ _ h => h, fun z => absurd z (Nat.lt_irrefl _), fun z => absurd z (by omega)⟩ (fun i σ H' _ ⟨_, _, e, _⟩ => SqT.of (e _ _ upd_same)) ?_ ?_⟩⟩
    · rintro n z σ H' hz ⟨o, rfl, e, n1, n2⟩
      obtain ⟨own, ho, ho4, hoI, hgo, hnx⟩ : ∃ own : Nat, z = .int (own : Nat) ∧ own < 4 ∧ 8 + own ≤ 12 ∧ (nearM s x y own = 0 → (if nearM s x y ((v - 8 + 3) % 4) = 0 then goM s x y (wayX ((v - 8 + 3) % 4)) (wayY ((v - 8 + 3) % 4)) (8 + (v - 8 + 3) % 4) else
          if nearM s x y (v - 8) = 0 then goM s x y (wayX (v - 8)) (wayY (v - 8)) v else putM s x y (8 + (v - 8 + 1) % 4)) = goM s x y (wayX own) (wayY own) (8 + own)) ∧
          (nearM s x y own ≠ 0 → (0 < n + 1 → nearM s x y ((v - 8 + 3) % 4) ≠ 0) ∧ (1 < n + 1 → nearM s x y (v - 8) ≠ 0)) := by
        match n, hz with
        | 0, hz =>
          refine ⟨(v - 8 + 3) % 4, ?_, by omega, by omega, fun c => by rw [if_pos c], fun c => ⟨fun _ => c, fun q => absurd q (by omega)⟩⟩
          refine (Option.some.inj hz).symm.trans (congrArg V.int ?_)
          omega
        | 1, hz =>
          refine ⟨v - 8, ?_, by omega, by omega, fun c => by rw [if_neg (n1 (by omega)), if_pos c, show 8 + (v - 8) = v by omega], fun c => ⟨fun _ => n1 (by omega), fun _ => c⟩⟩
          refine (Option.some.inj hz).symm.trans (congrArg V.int ?_)
          omega
        | n + 2, hz => simp at hz
      subst ho
      have e2 : Same H1 H' := fun b u q => e b u (same_new hp b u q)
      have hT2 := hT1.mono e2
      obtain ⟨d2, ht2⟩ := hT2.t
      have hw := way_t T ho4
      refine ⟨_, rfl, _, _, _, rfl, ht2, _, rfl, _, rfl, _, _, _, _, rfl, rfl, T.t_WAYS.sq, at_ix (j := own) rfl (way_at A ho4), _, _, _, _, rfl, rfl, hw.sq, at_ix (j := 0) rfl rfl, _, _, rfl, rfl,
        _, rfl, _, rfl, _, _, _, _, rfl, rfl, T.t_WAYS.sq, at_ix (j := own) rfl (way_at A ho4), _, _, _, _, rfl, rfl, hw.sq, at_ix (j := 1) rfl rfl, _, _, rfl, rfl, ?_⟩
      refine ⟨t, tc, th, s, _, _, rfl, hT2, ok, rfl, _, rfl, ?_⟩
      refine if_e (m := 0) (fun c2 => ?_) fun c2 => ?_
      · rw [hgo c2] at hk
        have j : inR s (x + wayX own) (y + wayY own) := at_in (by rw [c2]; decide)
        refine ⟨_, rfl, _, _, _, rfl, ht2, _, rfl, _, rfl, _, rfl, _, _, _, _, rfl, rfl, T.t_WAYS.sq, at_ix (j := own) rfl (way_at A ho4), _, rfl, _, _, rfl, rfl, ?_⟩
        refine ⟨t, tc, th, s, x, y, wayX own, wayY own, 8 + own, _, ?_, hT2, ok, i, j, fun _ _ => hw.sq, fun H3 hT3 f3 => hk hT3 ((Fr.same e1).trans ((Fr.same e2).trans f3))⟩
        show _ = [_, _, _, _, V.int ((8 + own : Nat) : Int)]
        rw [Int.natCast_add]
        rfl
      · exact ⟨_, rfl, e, hnx c2⟩
    · rintro σ H' ⟨o, rfl, e, n1, n2⟩
      have e2 : Same H1 H' := fun b u q => e b u (same_new hp b u q)
      have hT2 := hT1.mono e2
      obtain ⟨d2, ht2⟩ := hT2.t
      rw [if_neg (n1 (by show 0 < 2; decide)), if_neg (n2 (by show 1 < 2; decide))] at hk
      refine ⟨_, rfl, _, _, _, rfl, ht2, _, rfl, _, rfl, _, rfl, _, _, rfl, rfl, _, _, rfl, rfl, (by show (0 : Int) < 4; decide), _, _, rfl, rfl, ?_⟩
      refine ⟨t, tc, th, s, x, y, 8 + (v - 8 + 1) % 4, ?_, hT2, ok, i, fun H3 hT3 f3 => hk hT3 ((Fr.same e1).trans ((Fr.same e2).trans f3))⟩
      have ez : (8 : Int) + ((v : Int) - 8 + 1) % 4 = ((8 + (v - 8 + 1) % 4 : Nat) : Int) := by omega
      rw [← ez]
theorem m_Tick_turn (T : Txt K mg A) : MethOk P w K mg base CX0 6 A.tick "turn" ["self", "x", "y", "key"] (spPart A (fun _ _ _ k => k ≤ 4) turnM) := by
  refine T.d_Tick_turn.ok (N := ["self", "x", "y", "key", "thing"]) sc_Tick_turn (fun vs H Q E h => (by first | (obtain ⟨rfl, _⟩ := h; rfl) | (obtain ⟨_, rfl, _⟩ := h; rfl) | (obtain ⟨_, _, rfl, _⟩ := h; rfl) | (obtain ⟨_, _, _, rfl, _⟩ := h; rfl) | (obtain ⟨_, _, _, _, rfl, _⟩ := h; rfl) | (obtain ⟨_, _, _, _, _, rfl, _⟩ := h; rfl) | (obtain ⟨_, _, _, _, _, _, rfl, _⟩ := h; rfl) | (obtain ⟨_, _, _, _, _, _, _, rfl, _⟩ := h; rfl) | (obtain ⟨_, _, _, _, _, _, _, _, rfl, _⟩ := h; rfl) | (obtain ⟨_, _, _, _, _, _, _, _, _, rfl, _⟩ := h; rfl) | (obtain ⟨_, _, _, _, _, _, _, _, _, _, rfl, _⟩ := h; rfl) | (obtain ⟨_, _, _, _, _, _, _, _, _, _, _, rfl, _⟩ := h; rfl) | (obtain ⟨_, _, _, _, _, _, _, _, _, _, _, _, rfl, _⟩ := h; rfl) | (obtain ⟨_, _, _, _, _, _, _, _, _, _, _, _, _, rfl, _⟩ := h; rfl) | (obtain ⟨rfl⟩ := h; rfl) | (obtain ⟨_, rfl⟩ := h; rfl) | (obtain ⟨_, _, rfl⟩ := h; rfl) | (obtain ⟨_, _, _, rfl⟩ := h; rfl) | (obtain ⟨_, _, _, _, rfl⟩ := h; rfl) | (obtain ⟨_, _, _, _, _, rfl⟩ := h; rfl) | (obtain ⟨_, _, _, _, _, _, rfl⟩ := h; rfl) | (obtain ⟨_, _, _, _, _, _, _, rfl⟩ := h; rfl) | (obtain ⟨_, _, _, _, _, _, _, _, rfl⟩ := h; rfl) | (obtain ⟨_, _, _, _, _, _, _, _, _, rfl⟩ := h; rfl) | (obtain ⟨_, _, _, _, _, _, _, _, _, _, rfl⟩ := h; rfl) | (obtain ⟨_, _, _, _, _, _, _, _, _, _, _, rfl⟩ := h; rfl) | (obtain ⟨_, _, _, _, _, _, _, _, _, _, _, _, rfl⟩ := h; rfl) | (obtain ⟨_, _, _, _, _, _, _, _, _, _, _, _, _, rfl⟩ := h; rfl))) (fun _ _ _ _ _ _ us hl => match us, hl with | [_, _, _, _], _ => rfl) (fun f cdv A0 outer s H vs Q E hr h => ⟨_, (pss_cons (ps_set (i := 4) sc_Tick_turn.nd rfl (by first | exact Or.inl rfl | exact Or.inr rfl) (pe_mth (ks := kTick) T.cTick (by decide +kernel) (m_Tick_at T) (hr.mono (by decide)) pass0 (pv 0) (pa_cons (pv 1) (pa_cons (pv 2) pa_nil))))
      (pss_one (ps_if (pt_cmpR op_eq (pv 4) (pe_gi T.i_PLAYER) (nomark _)) (pss_one (ps_expr (pe_mth (ks := kTick) T.cTick (by decide +kernel) (m_Tick_play T) (hr.mono (by decide)) pass0 (pv 0) (pa_cons (pv 1) (pa_cons (pv 2) (pa_cons (pv 3) pa_nil)))))) (pss_one (ps_if (pt_cmpR op_in_seq (pv 4) (pe_gr T.g_LOOSE) (by rfl)) (pss_one (ps_expr (pe_mth (ks := kTick) T.cTick (by decide +kernel) (m_Tick_fall T) (hr.mono (by decide)) pass0 (pv 0) (pa_cons (pv 1) (pa_cons (pv 2) (pa_cons (pv 4) pa_nil)))))) (pss_one (ps_if (pt_val (pe_cal (g_is_monster T) (hr.mono (by decide)) pass0 (pa_cons (pv 4) pa_nil))) (pss_one (ps_expr (pe_mth (ks := kTick) T.cTick (by decide +kernel) (m_Tick_walk T) (hr.mono (by decide)) pass0 (pv 0) (pa_cons (pv 1) (pa_cons (pv 2) (pa_cons (pv 4) pa_nil)))))) pss_nil))))))), ?_⟩)
  obtain ⟨t, tc, th, s, x, y, key, rfl, hT, ok, i, hkey, k⟩ := h
  obtain ⟨d0, ht⟩ := hT.t
  have hk : ∀ {H'}, TickAt A H' t tc th (turnM s x y key) → Fr [t, tc, th] H H' → Q .non H' := fun {H'} => k H'
  clear k
  unfold turnM at hk
  dsimp only at hk
  refine ⟨_, rfl, _, _, _, rfl, ht, _, rfl, _, rfl, t, tc, th, s, x, y, rfl, hT, ok, ?_⟩
  generalize atM s x y = v at hk ⊢
  refine ⟨_, rfl, rfl, _, rfl, ?_⟩
  refine if_e (m := 7) (fun c1 => ?_) fun c1 => ?_
  · rw [if_pos c1] at hk
    exact ⟨_, rfl, _, _, _, rfl, ht, _, rfl, _, rfl, _, rfl, t, tc, th, s, x, y, key, rfl, hT, ok, i, hkey, fun H1 hT1 f1 => hk hT1 f1⟩
  rw [if_neg c1] at hk
  refine ⟨_, rfl, _, _, rfl, .inr T.t_LOOSE.sq, rfl, rfl, _, rfl, ?_⟩
  rw [show (if false = true then !inV (.int (v : Int)) [.int 3, .int 4, .int 5, .int 6] else inV (.int (v : Int)) [.int 3, .int 4, .int 5, .int 6]) = decide (v = 3 ∨ v = 4 ∨ v = 5 ∨ v = 6) from in4 v 3 4 5 6]
  refine if_d (fun c2 => ?_) fun c2 => ?_
  · rw [if_pos c2] at hk
    exact ⟨_, rfl, _, _, _, rfl, ht, _, rfl, _, rfl, _, rfl, t, tc, th, s, x, y, v, rfl, hT, ok, i, trivial, fun H1 hT1 f1 => hk hT1 f1⟩
  rw [if_neg c2] at hk
  refine ⟨_, rfl, v, rfl, _, rfl, ?_⟩
  refine if_b (fun c3 => ?_) fun c3 => ?_
  · rw [if_pos c3] at hk
    exact ⟨_, rfl, _, _, _, rfl, ht, _, rfl, _, rfl, _, rfl, t, tc, th, s, x, y, v, rfl, hT, ok, i, of_decide_eq_true c3, fun H1 hT1 f1 => hk hT1 f1⟩
  · rw [if_neg (by rw [c3]; decide)] at hk
    exact hk hT (Fr.refl _ _)
end
end SC
/-! SC6: caves made, a tick whole. -/
namespace SC
open PySem PySem.Spec PyProof.Rows L2
structure CM where
  w : Nat
  h : Nat
  cells : List Nat
  st : Nat
  pts : Nat
  deriving DecidableEq
structure CM.Ok (c : CM) : Prop where
  hw : 1 ≤ c.w ∧ c.w ≤ 20
  hh : 1 ≤ c.h ∧ c.h ≤ 14
  lc : c.cells.length = c.w * c.h
  c12 : ∀ v ∈ c.cells, v ≤ 12
def cvF (c : CM) (ca : Addr) : List V := [.int c.w, .int c.h, .ref ca, .int c.st, .int c.pts]
def CaveAt (A : Ad) (H : Hp) (a : Addr) (c : CM) : Prop := ∃ dx ca, H a = some (.ins A.cave dx (kz kCave (cvF c ca))) ∧ H ca = some (.lst (vi c.cells))
theorem CaveAt.mono {A : Ad} {H H' : Hp} {a : Addr} {c : CM} (h : CaveAt A H a c) (e : Same H H') : CaveAt A H' a c :=
  let ⟨dx, ca, h1, h2⟩ := h; ⟨dx, ca, e _ _ h1, e _ _ h2⟩
/-- a cave that is new in H' -/
structure CaveNew (A : Ad) (H H' : Hp) (p : Addr) (c : CM) : Prop where
  same : Same H H'
  at_ : ∃ dx ca, H' p = some (.ins A.cave dx (kz kCave (cvF c ca))) ∧ H' ca = some (.lst (vi c.cells)) ∧ H p = none ∧ H ca = none
def spCaveI (A : Ad) : Sp := fun vs H Q _ => ∃ (p dx ca : Addr) (c : CM), vs = .ref p :: cvF c ca ∧ H p = some (.ins A.cave dx (kz [] [])) ∧
  ∀ H', H' p = some (.ins A.cave dx (kz kCave (cvF c ca))) → Fr [p] H H' → Q .non H'
def ts0 (c : CM) : TS := ⟨c.w, c.h, c.cells, List.replicate (c.w * c.h) false, c.st, c.pts⟩
def spTickI (A : Ad) : Sp := fun vs H Q _ => ∃ (t dx a : Addr) (c : CM), vs = [.ref t, .ref a] ∧ H t = some (.ins A.tick dx (kz [] [])) ∧ CaveAt A H a c ∧ a ≠ t ∧ c.Ok ∧
  ∀ H' tc th, TickAt A H' t tc th (ts0 c) → Fr [t] H H' → H tc = none → H th = none → Q .non H'
def stepM (key : Nat) (s : TS) (i : Nat) : TS := if s.st = 0 ∧ s.had.getD i false = false then turnM s ((i % s.w : Nat) : Int) ((i / s.w : Nat) : Int) key else s
def tickM (c : CM) (key : Nat) : CM := let s := (List.range (c.w * c.h)).foldl (stepM key) (ts0 c); ⟨s.w, s.h, s.cells, s.st, s.pts⟩
def spTicked (A : Ad) : Sp := fun vs H Q _ => ∃ (a : Addr) (c : CM) (key : Nat), vs = [.ref a, .int key] ∧ CaveAt A H a c ∧ c.Ok ∧ key ≤ 4 ∧ ∀ H' p, CaveNew A H H' p (tickM c key) → Q (.ref p) H'
theorem Fr.new {W : List Addr} {H H' : Hp} {p : Addr} {o : HO} (f : Fr W H H') (h : H' p = none) : Fr W H (L2.upd H' p o) := f.trans (Fr.same (same_new h))
theorem upd_at {H H' : Hp} {a : Addr} {o : HO} (h : upd H a o = H') : H' a = some o := by rw [← h]; exact upd_same
/-- s' is like s, well-formed -/
structure Like (s s' : TS) : Prop where
  ok : s'.Ok
  w : s'.w = s.w
  h : s'.h = s.h
theorem like_put {s : TS} (ok : s.Ok) {x y : Int} {v : Nat} (hv : v ≤ 12) : Like s (putM s x y v) := ⟨putM_ok ok hv, rfl, rfl⟩
theorem like_arr {s : TS} (ok : s.Ok) {x y : Int} {v : Nat} (hv : v ≤ 12) : Like s (arriveM s x y v) := ⟨arriveM_ok ok hv, rfl, rfl⟩
theorem like_go {s : TS} (ok : s.Ok) {x y dx dy : Int} {v : Nat} (hv : v ≤ 12) : Like s (goM s x y dx dy v) := ⟨goM_ok ok hv, rfl, rfl⟩
theorem Like.refl {s : TS} (ok : s.Ok) : Like s s := ⟨ok, rfl, rfl⟩
theorem Like.trans {s s1 s2 : TS} (a : Like s s1) (b : Like s1 s2) : Like s s2 := ⟨b.ok, b.w.trans a.w, b.h.trans a.h⟩
theorem Like.st {s s' : TS} (a : Like s s') (x y : Nat) : Like s { s' with st := x, pts := y } := ⟨st_ok a.ok x y, a.w, a.h⟩
theorem like_turn {s : TS} (ok : s.Ok) {x y : Int} {key : Nat} : Like s (turnM s x y key) := by
  unfold turnM
  dsimp only
  split
  · unfold playM
    dsimp only
    split
    · exact .refl ok
    · split
      · exact (like_go ok (by omega)).st _ _
      · split
        · unfold pushM
          split
          · exact (like_go ok (by omega)).trans (like_go (goM_ok ok (by omega)) (by omega))
          · exact .refl ok
        · split
          · exact (like_put ok (by omega)).st _ _
          · exact .refl ok
  · split
    · unfold fallM
      dsimp only
      split
      · exact like_go ok (fallen_le _)
      · split
        · exact (like_go ok (lying_le _)).st _ _
        · split
          · exact ((like_arr ok (by omega)).trans (like_put (arriveM_ok ok (by omega)) (lying_le _))).st _ _
          · split
            · unfold rollM
              split
              · exact like_go ok (fallen_le _)
              · split
                · exact like_go ok (fallen_le _)
                · exact like_put ok (lying_le _)
            · exact like_put ok (lying_le _)
    · split
      · rename_i hm
        have hm := of_decide_eq_true hm
        unfold walkM
        dsimp only
        split
        · exact (Like.refl ok).st _ _
        · split
          · exact like_go ok (by omega)
          · split
            · exact like_go ok (by omega)
            · exact like_put ok (by omega)
      · exact .refl ok
theorem like_step {s : TS} (ok : s.Ok) {key i : Nat} : Like s (stepM key s i) := by
  unfold stepM
  split
  · exact like_turn ok
  · exact .refl ok
theorem like_fold {s : TS} (ok : s.Ok) {key : Nat} : ∀ l : List Nat, Like s (l.foldl (stepM key) s) := by
  intro l
  induction l generalizing s with
  | nil => exact .refl ok
  | cons a l ih => exact (like_step ok).trans (ih (like_step ok).ok)
theorem ts0_ok {c : CM} (ok : c.Ok) : (ts0 c).Ok := ⟨ok.hw, ok.hh, ok.lc, List.length_replicate, ok.c12⟩
theorem tickM_ok {c : CM} (ok : c.Ok) (key : Nat) : (tickM c key).Ok ∧ (tickM c key).w = c.w ∧ (tickM c key).h = c.h := by
  have z := like_fold (ts0_ok ok) (key := key) (List.range (c.w * c.h))
  exact ⟨⟨z.ok.hw, z.ok.hh, z.ok.lc, z.ok.c12⟩, z.w, z.h⟩
section
variable {P : Program} {w : World} {K : PySem.W.Frag} {mg : Str → Option Value} {base : Heap} {A : Ad}
theorem sc_Cave___init__ : FnScope ["self", "wide", "high", "cells", "standing", "points"] ["self", "wide", "high", "cells", "standing", "points"] (defScope (inClass (topS 17) 0)) := ⟨rfl, rfl, rfl, by decide +kernel, rfl, by decide +kernel, by decide +kernel⟩
theorem sc_Tick___init__ : FnScope ["self", "cave"] ["self", "cave"] (defScope (inClass (topS 36) 0)) := ⟨rfl, rfl, rfl, by decide +kernel, rfl, by decide +kernel, by decide +kernel⟩
theorem sc_ticked : FnScope ["cave", "key", "tick", "place"] ["cave", "key"] (defScope (topS 37)) := ⟨rfl, rfl, rfl, by decide +kernel, rfl, by decide +kernel, by decide +kernel⟩
theorem i_Cave (T : Txt K mg A) : MakeOk P w K mg base CX0 1 A.cave "Cave" ["self", "wide", "high", "cells", "standing", "points"] (spCaveI A) := by
  refine T.d_Cave.ok (N := ["self", "wide", "high", "cells", "standing", "points"]) sc_Cave___init__ (fun vs H Q E h => (by first | (obtain ⟨rfl, _⟩ := h; rfl) | (obtain ⟨_, rfl, _⟩ := h; rfl) | (obtain ⟨_, _, rfl, _⟩ := h; rfl) | (obtain ⟨_, _, _, rfl, _⟩ := h; rfl) | (obtain ⟨_, _, _, _, rfl, _⟩ := h; rfl) | (obtain ⟨_, _, _, _, _, rfl, _⟩ := h; rfl) | (obtain ⟨_, _, _, _, _, _, rfl, _⟩ := h; rfl) | (obtain ⟨_, _, _, _, _, _, _, rfl, _⟩ := h; rfl) | (obtain ⟨_, _, _, _, _, _, _, _, rfl, _⟩ := h; rfl) | (obtain ⟨_, _, _, _, _, _, _, _, _, rfl, _⟩ := h; rfl) | (obtain ⟨_, _, _, _, _, _, _, _, _, _, rfl, _⟩ := h; rfl) | (obtain ⟨_, _, _, _, _, _, _, _, _, _, _, rfl, _⟩ := h; rfl) | (obtain ⟨_, _, _, _, _, _, _, _, _, _, _, _, rfl, _⟩ := h; rfl) | (obtain ⟨_, _, _, _, _, _, _, _, _, _, _, _, _, rfl, _⟩ := h; rfl) | (obtain ⟨rfl⟩ := h; rfl) | (obtain ⟨_, rfl⟩ := h; rfl) | (obtain ⟨_, _, rfl⟩ := h; rfl) | (obtain ⟨_, _, _, rfl⟩ := h; rfl) | (obtain ⟨_, _, _, _, rfl⟩ := h; rfl) | (obtain ⟨_, _, _, _, _, rfl⟩ := h; rfl) | (obtain ⟨_, _, _, _, _, _, rfl⟩ := h; rfl) | (obtain ⟨_, _, _, _, _, _, _, rfl⟩ := h; rfl) | (obtain ⟨_, _, _, _, _, _, _, _, rfl⟩ := h; rfl) | (obtain ⟨_, _, _, _, _, _, _, _, _, rfl⟩ := h; rfl) | (obtain ⟨_, _, _, _, _, _, _, _, _, _, rfl⟩ := h; rfl) | (obtain ⟨_, _, _, _, _, _, _, _, _, _, _, rfl⟩ := h; rfl) | (obtain ⟨_, _, _, _, _, _, _, _, _, _, _, _, rfl⟩ := h; rfl) | (obtain ⟨_, _, _, _, _, _, _, _, _, _, _, _, _, rfl⟩ := h; rfl))) (fun _ _ _ _ _ _ us hl => match us, hl with | [_, _, _, _, _, _], _ => rfl) (fun f cdv A0 outer s H vs Q E hr h => ⟨_, (pss_cons (ps_new (ks := []) T.cCave T.nCave_wide (by decide +kernel) (by decide) (pv 0) (pv 1) rfl)
      (pss_cons (ps_new (ks := ["wide"]) T.cCave T.nCave_high (by decide +kernel) (by decide) (pv 0) (pv 2) rfl)
      (pss_cons (ps_new (ks := ["wide", "high"]) T.cCave T.nCave_cells (by decide +kernel) (by decide) (pv 0) (pv 3) rfl)
      (pss_cons (ps_new (ks := ["wide", "high", "cells"]) T.cCave T.nCave_standing (by decide +kernel) (by decide) (pv 0) (pv 4) rfl)
      (pss_one (ps_new (ks := ["wide", "high", "cells", "standing"]) T.cCave T.nCave_points (by decide +kernel) (by decide) (pv 0) (pv 5) rfl)))))), ?_⟩)
  obtain ⟨p, dx, ca, c, rfl, hp, k⟩ := h
  refine ⟨_, rfl, _, rfl, _, _, _, rfl, hp, rfl, ?_⟩
  refine ⟨_, rfl, _, rfl, _, _, _, rfl, upd_same, rfl, ?_⟩
  refine ⟨_, rfl, _, rfl, _, _, _, rfl, upd_same, rfl, ?_⟩
  refine ⟨_, rfl, _, rfl, _, _, _, rfl, upd_same, rfl, ?_⟩
  refine ⟨_, rfl, _, rfl, _, _, _, rfl, upd_same, rfl, ?_⟩
  exact k _ upd_same ((((((Fr.refl _ _).upd (by simp)).upd (by simp)).upd (by simp)).upd (by simp)).upd (by simp))
theorem rep_vb (n : Nat) : (List.replicate n [V.bl false]).flatten = vb (List.replicate n false) := by
  unfold vb
  rw [List.map_replicate]
  induction n with
  | zero => rfl
  | succ n ih => rw [List.replicate_succ, List.flatten_cons, ih, List.replicate_succ]; rfl
theorem i_Tick (T : Txt K mg A) : MakeOk P w K mg base CX0 1 A.tick "Tick" ["self", "cave"] (spTickI A) := by
  refine T.d_Tick.ok (N := ["self", "cave"]) sc_Tick___init__ (fun vs H Q E h => (by first | (obtain ⟨rfl, _⟩ := h; rfl) | (obtain ⟨_, rfl, _⟩ := h; rfl) | (obtain ⟨_, _, rfl, _⟩ := h; rfl) | (obtain ⟨_, _, _, rfl, _⟩ := h; rfl) | (obtain ⟨_, _, _, _, rfl, _⟩ := h; rfl) | (obtain ⟨_, _, _, _, _, rfl, _⟩ := h; rfl) | (obtain ⟨_, _, _, _, _, _, rfl, _⟩ := h; rfl) | (obtain ⟨_, _, _, _, _, _, _, rfl, _⟩ := h; rfl) | (obtain ⟨_, _, _, _, _, _, _, _, rfl, _⟩ := h; rfl) | (obtain ⟨_, _, _, _, _, _, _, _, _, rfl, _⟩ := h; rfl) | (obtain ⟨_, _, _, _, _, _, _, _, _, _, rfl, _⟩ := h; rfl) | (obtain ⟨_, _, _, _, _, _, _, _, _, _, _, rfl, _⟩ := h; rfl) | (obtain ⟨_, _, _, _, _, _, _, _, _, _, _, _, rfl, _⟩ := h; rfl) | (obtain ⟨_, _, _, _, _, _, _, _, _, _, _, _, _, rfl, _⟩ := h; rfl) | (obtain ⟨rfl⟩ := h; rfl) | (obtain ⟨_, rfl⟩ := h; rfl) | (obtain ⟨_, _, rfl⟩ := h; rfl) | (obtain ⟨_, _, _, rfl⟩ := h; rfl) | (obtain ⟨_, _, _, _, rfl⟩ := h; rfl) | (obtain ⟨_, _, _, _, _, rfl⟩ := h; rfl) | (obtain ⟨_, _, _, _, _, _, rfl⟩ := h; rfl) | (obtain ⟨_, _, _, _, _, _, _, rfl⟩ := h; rfl) | (obtain ⟨_, _, _, _, _, _, _, _, rfl⟩ := h; rfl) | (obtain ⟨_, _, _, _, _, _, _, _, _, rfl⟩ := h; rfl) | (obtain ⟨_, _, _, _, _, _, _, _, _, _, rfl⟩ := h; rfl) | (obtain ⟨_, _, _, _, _, _, _, _, _, _, _, rfl⟩ := h; rfl) | (obtain ⟨_, _, _, _, _, _, _, _, _, _, _, _, rfl⟩ := h; rfl) | (obtain ⟨_, _, _, _, _, _, _, _, _, _, _, _, _, rfl⟩ := h; rfl))) (fun _ _ _ _ _ _ us hl => match us, hl with | [_, _], _ => rfl) (fun f cdv A0 outer s H vs Q E hr h => ⟨_, (pss_cons (ps_new (ks := []) T.cTick T.nTick_wide (by decide +kernel) (by decide) (pv 0) (pe_get (ks := kCave) (i := 0) T.cCave T.nCave_wide (by decide +kernel) (pv 1)) rfl)
      (pss_cons (ps_new (ks := ["wide"]) T.cTick T.nTick_high (by decide +kernel) (by decide) (pv 0) (pe_get (ks := kCave) (i := 1) T.cCave T.nCave_high (by decide +kernel) (pv 1)) rfl)
      (pss_cons (ps_new (ks := ["wide", "high"]) T.cTick T.nTick_cells (by decide +kernel) (by decide) (pv 0) (pe_callTy call_list_of (by rfl) T.b_list (by decide +kernel) (pa_cons (pe_get (ks := kCave) (i := 2) T.cCave T.nCave_cells (by decide +kernel) (pv 1)) pa_nil)) rfl)
      (pss_cons (ps_new (ks := ["wide", "high", "cells"]) T.cTick T.nTick_had (by decide +kernel) (by decide) (pv 0) (pe_op op_rep (pe_lst (pa_cons pe_bl pa_nil)) (pe_callB call_len_seq (by rfl) T.b_len PySem.boot_len (pa_cons (pe_get (ks := kTick) (i := 2) T.cTick T.nTick_cells (by decide +kernel) (pv 0)) pa_nil))) rfl)
      (pss_cons (ps_new (ks := ["wide", "high", "cells", "had"]) T.cTick T.nTick_standing (by decide +kernel) (by decide) (pv 0) (pe_get (ks := kCave) (i := 3) T.cCave T.nCave_standing (by decide +kernel) (pv 1)) rfl)
      (pss_one (ps_new (ks := ["wide", "high", "cells", "had", "standing"]) T.cTick T.nTick_points (by decide +kernel) (by decide) (pv 0) (pe_get (ks := kCave) (i := 4) T.cCave T.nCave_points (by decide +kernel) (pv 1)) rfl))))))), ?_⟩)
  obtain ⟨t, dx, a, c, rfl, ht, ⟨da, ca, ha, hca⟩, nat, ok, k⟩ := h
  have nct : ca ≠ t := ne_of hca ht (by intro z; cases z)
  have e0 : ∀ {H' : Hp}, Fr [t] H H' → H' a = some (.ins A.cave da (kz kCave (cvF c ca))) ∧ H' ca = some (.lst (vi c.cells)) := fun {H'} f => ⟨f _ _ ha (by simp [nat]), f _ _ hca (by simp [nct])⟩
  refine ⟨_, rfl, _, _, _, _, rfl, ha, rfl, _, rfl, _, _, _, rfl, ht, rfl, ?_⟩
  generalize hU : upd H t _ = H1
  have f1 : Fr [t] H H1 := by rw [← hU]; exact (Fr.refl _ _).upd (by simp)
  have t1 := upd_at hU
  clear hU
  refine ⟨_, rfl, _, _, _, _, rfl, (e0 f1).1, rfl, _, rfl, _, _, _, rfl, t1, rfl, ?_⟩
  generalize hU : upd H1 t _ = H2
  have f2 : Fr [t] H H2 := by rw [← hU]; exact f1.upd (by simp)
  have t2 := upd_at hU
  clear hU
  refine ⟨_, rfl, _, _, _, _, rfl, (e0 f2).1, rfl, _, _, rfl, .inl (SqL.of (e0 f2).2), fun tc htc => ⟨_, rfl, _, _, _, rfl, same_new htc _ _ t2, rfl, ?_⟩⟩
  have ntc : tc ≠ t := Ne.symm (ne_of_none t2 htc)
  have hfc : H tc = none := by
    cases q : H tc with
    | none => rfl
    | some o => rw [f2 _ _ q (by simp [ntc])] at htc; cases htc
  generalize hU : upd (upd H2 tc _) t _ = H3
  have f3 : Fr [t] H H3 := by rw [← hU]; exact (f2.new htc).upd (by simp)
  have t3 := upd_at hU
  have c3 : H3 tc = some (.lst (vi c.cells)) := by rw [← hU, upd_ne ntc]; exact upd_same
  clear hU
  have t3' : H3 t = some (.ins A.tick dx (kz kTick [.int c.w, .int c.h, .ref tc])) := t3
  refine ⟨(by show 1 ≤ sizeLine; decide), fun q hq => ⟨_, rfl, _, _, _, _, rfl, same_new hq _ _ t3', rfl, _, _, rfl, .inl (SqL.of (same_new hq _ _ c3)), _, _, _, rfl, rfl, upd_same, ?_, ?_, ?_, fun th hth => ⟨_, rfl, _, _, _, rfl, same_new hth _ _ (same_new hq _ _ t3), rfl, ?_⟩⟩⟩
  · rw [vi_len]; omega
  · rw [vi_len, ok.lc]; have := Nat.mul_le_mul ok.hw.2 ok.hh.2; omega
  · rw [vi_len, ok.lc]; have := Nat.mul_le_mul ok.hw.2 ok.hh.2; exact Nat.le_of_lt (small1000 (by show 1 * ((c.w * c.h : Nat) : Int).toNat ≤ 1000; omega))
  have nth : th ≠ t := Ne.symm (ne_of_none (same_new hq _ _ t3) hth)
  have nthc : tc ≠ th := ne_of_none (same_new hq _ _ c3) hth
  have hfh : H th = none := by
    cases z : H th with
    | none => rfl
    | some o => rw [same_new hq _ _ (f3 _ _ z (by simp [nth]))] at hth; cases hth
  generalize hU : upd (upd (upd H3 q _) th _) t _ = H4
  have f4 : Fr [t] H H4 := by rw [← hU]; exact ((f3.new hq).new hth).upd (by simp)
  have t4 := upd_at hU
  have c4 : H4 tc = some (.lst (vi c.cells)) := by rw [← hU, upd_ne ntc, upd_ne nthc]; exact same_new hq _ _ c3
  have d4 : H4 th = some (.lst (vb (List.replicate (c.w * c.h) false))) := by
    rw [← hU, upd_ne nth, upd_same, vi_len, ok.lc, Int.toNat_natCast, rep_vb]
  clear hU
  refine ⟨_, rfl, _, _, _, _, rfl, (e0 f4).1, rfl, _, rfl, _, _, _, rfl, t4, rfl, ?_⟩
  generalize hU : upd H4 t _ = H5
  have f5 : Fr [t] H H5 := by rw [← hU]; exact f4.upd (by simp)
  have t5 := upd_at hU
  have c5 : H5 tc = some (.lst (vi c.cells)) := by rw [← hU, upd_ne ntc]; exact c4
  have d5 : H5 th = some (.lst (vb (List.replicate (c.w * c.h) false))) := by rw [← hU, upd_ne nth]; exact d4
  clear hU
  refine ⟨_, rfl, _, _, _, _, rfl, (e0 f5).1, rfl, _, rfl, _, _, _, rfl, t5, rfl, ?_⟩
  refine k _ tc th ⟨nthc, ⟨dx, upd_same⟩, by rw [upd_ne ntc]; exact c5, by rw [upd_ne nth]; exact d5⟩ (f5.upd (by simp)) hfc hfh
theorem div_lt {i w h : Nat} (hw : 1 ≤ w) (h1 : i < w * h) : i / w < h := Nat.div_lt_of_lt_mul h1
theorem g_ticked (T : Txt K mg A) : CallOk P w K mg base CX0 7 "ticked" ["cave", "key"] (spTicked A) := by
  refine T.d_ticked.ok (N := ["cave", "key", "tick", "place"]) sc_ticked (fun vs H Q E h => (by first | (obtain ⟨rfl, _⟩ := h; rfl) | (obtain ⟨_, rfl, _⟩ := h; rfl) | (obtain ⟨_, _, rfl, _⟩ := h; rfl) | (obtain ⟨_, _, _, rfl, _⟩ := h; rfl) | (obtain ⟨_, _, _, _, rfl, _⟩ := h; rfl) | (obtain ⟨_, _, _, _, _, rfl, _⟩ := h; rfl) | (obtain ⟨_, _, _, _, _, _, rfl, _⟩ := h; rfl) | (obtain ⟨_, _, _, _, _, _, _, rfl, _⟩ := h; rfl) | (obtain ⟨_, _, _, _, _, _, _, _, rfl, _⟩ := h; rfl) | (obtain ⟨_, _, _, _, _, _, _, _, _, rfl, _⟩ := h; rfl) | (obtain ⟨_, _, _, _, _, _, _, _, _, _, rfl, _⟩ := h; rfl) | (obtain ⟨_, _, _, _, _, _, _, _, _, _, _, rfl, _⟩ := h; rfl) | (obtain ⟨_, _, _, _, _, _, _, _, _, _, _, _, rfl, _⟩ := h; rfl) | (obtain ⟨_, _, _, _, _, _, _, _, _, _, _, _, _, rfl, _⟩ := h; rfl) | (obtain ⟨rfl⟩ := h; rfl) | (obtain ⟨_, rfl⟩ := h; rfl) | (obtain ⟨_, _, rfl⟩ := h; rfl) | (obtain ⟨_, _, _, rfl⟩ := h; rfl) | (obtain ⟨_, _, _, _, rfl⟩ := h; rfl) | (obtain ⟨_, _, _, _, _, rfl⟩ := h; rfl) | (obtain ⟨_, _, _, _, _, _, rfl⟩ := h; rfl) | (obtain ⟨_, _, _, _, _, _, _, rfl⟩ := h; rfl) | (obtain ⟨_, _, _, _, _, _, _, _, rfl⟩ := h; rfl) | (obtain ⟨_, _, _, _, _, _, _, _, _, rfl⟩ := h; rfl) | (obtain ⟨_, _, _, _, _, _, _, _, _, _, rfl⟩ := h; rfl) | (obtain ⟨_, _, _, _, _, _, _, _, _, _, _, rfl⟩ := h; rfl) | (obtain ⟨_, _, _, _, _, _, _, _, _, _, _, _, rfl⟩ := h; rfl) | (obtain ⟨_, _, _, _, _, _, _, _, _, _, _, _, _, rfl⟩ := h; rfl))) (fun _ _ _ _ _ _ us hl => match us, hl with | [_, _], _ => rfl) (fun f cdv A0 outer s H vs Q E hr h => ⟨_, (pss_cons (ps_set (i := 2) sc_ticked.nd rfl (by first | exact Or.inl rfl | exact Or.inr rfl) (pe_mak (i_Tick T) (hr.mono (by decide)) pass0 (pa_cons (pv 0) pa_nil)))
      (pss_cons (ps_for PassesOwn.never rfl (pi_range1 rfl T.b_range (pa_cons (pe_callB call_len_seq (by rfl) T.b_len PySem.boot_len (pa_cons (pe_get (ks := kTick) (i := 2) T.cTick T.nTick_cells (by decide +kernel) (pv 2)) pa_nil)) pa_nil)) (pg_name (i := 3) sc_ticked.nd rfl (by first | exact Or.inl rfl | exact Or.inr rfl)) (pss_one (ps_if (PW.pt (pw_and (pt_cmpR op_eq (pe_get (ks := kTick) (i := 4) T.cTick T.nTick_standing (by decide +kernel) (pv 2)) (pe_gi T.i_GOES_ON) (nomark _)) (pw_and1 (pt_not (pt_val (pe_ix ix_list (pe_get (ks := kTick) (i := 3) T.cTick T.nTick_had (by decide +kernel) (pv 2)) (pv 3) (fun _ _ => rfl))))))) (pss_one (ps_expr (pe_mth (ks := kTick) T.cTick (by decide +kernel) (m_Tick_turn T) (hr.mono (by decide)) pass0 (pv 2) (pa_cons (pe_op op_mod (pv 3) (pe_get (ks := kTick) (i := 0) T.cTick T.nTick_wide (by decide +kernel) (pv 2))) (pa_cons (pe_op op_fdiv (pv 3) (pe_get (ks := kTick) (i := 0) T.cTick T.nTick_wide (by decide +kernel) (pv 2))) (pa_cons (pv 1) pa_nil)))))) pss_nil)))
      (pss_one (ps_ret (pe_mak (i_Cave T) (hr.mono (by decide)) pass0 (pa_cons (pe_get (ks := kTick) (i := 0) T.cTick T.nTick_wide (by decide +kernel) (pv 2)) (pa_cons (pe_get (ks := kTick) (i := 1) T.cTick T.nTick_high (by decide +kernel) (pv 2)) (pa_cons (pe_get (ks := kTick) (i := 2) T.cTick T.nTick_cells (by decide +kernel) (pv 2)) (pa_cons (pe_get (ks := kTick) (i := 4) T.cTick T.nTick_standing (by decide +kernel) (pv 2)) (pa_cons (pe_get (ks := kTick) (i := 5) T.cTick T.nTick_points (by decide +kernel) (pv 2)) pa_nil)))))))))), ?_⟩)
  obtain ⟨a, c, key, rfl, hC, ok, hkey, k⟩ := h
  refine ⟨_, rfl, fun t dt ht hdt net => ⟨t, dt, a, c, rfl, upd_same, ?_, ?_, ok, fun H1 tc th hT1 f1 htc hth => ⟨rfl, ?_⟩⟩⟩
  · exact hC.mono (same_up (same_new hdt) ht)
  · obtain ⟨_, _, z, _⟩ := hC
    exact ne_of_none z ht
  have s1 : Same H H1 := fun b o q => f1 b o (same_up (same_new hdt) ht b o q) (by
    intro z
    rw [List.mem_singleton.mp z, ht] at q
    cases q)
  have htc' : H tc = none := by
    cases z : H tc with
    | none => rfl
    | some o => rw [same_up (same_new hdt) ht _ _ z] at htc; cases htc
  have hth' : H th = none := by
    cases z : H th with
    | none => rfl
    | some o => rw [same_up (same_new hdt) ht _ _ z] at hth; cases hth
  have fin : ∀ {H'}, Fr [t, tc, th] H1 H' → Same H H' := fun {H'} f b o q => f b o (s1 b o q) (by
    intro z
    simp only [List.mem_cons, List.not_mem_nil, or_false] at z
    rcases z with z | z | z
    · rw [z, ht] at q; cases q
    · rw [z, htc'] at q; cases q
    · rw [z, hth'] at q; cases q)
  obtain ⟨d1, ht1⟩ := hT1.t
  have hn : (vi (ts0 c).cells).length = c.w * c.h := by rw [vi_len]; exact ok.lc
  have hb := Nat.mul_le_mul ok.hw.2 ok.hh.2
  refine ⟨_, rfl, _, _, _, _, rfl, ht1, rfl, _, _, rfl, .inl (SqL.of hT1.c), _, rfl, by omega, by omega, ?_⟩
  rw [hn, Int.toNat_natCast]
  refine for_range (n := c.w * c.h) (fun i σ H' => ∃ o, σ = [some (.ref a), some (.int (key : Nat)), some (.ref t), o] ∧ TickAt A H' t tc th ((List.range i).foldl (stepM key) (ts0 c)) ∧ Fr [t, tc, th] H1 H')
    ⟨none, rfl, hT1, Fr.refl _ _⟩ ?_ ?_
  · rintro i σ H' hi ⟨o, rfl, hT, fr⟩
    have L := like_fold (ts0_ok ok) (key := key) (List.range i)
    have eN : (List.range (i + 1)).foldl (stepM key) (ts0 c) = stepM key ((List.range i).foldl (stepM key) (ts0 c)) i := by rw [List.range_succ, List.foldl_append]; rfl
    rw [eN]
    generalize (List.range i).foldl (stepM key) (ts0 c) = s at hT L ⊢
    obtain ⟨d2, ht2⟩ := hT.t
    have hw : s.w = c.w := L.w
    have hh : s.h = c.h := L.h
    have nope : ¬ (s.st = 0 ∧ s.had.getD i false = false) → ∃ o', ([some (V.ref a), some (.int (key : Nat)), some (.ref t), some (.int ((0 : Int) + (i : Nat)))] : L2.St) = [some (.ref a), some (.int (key : Nat)), some (.ref t), o'] ∧ TickAt A H' t tc th (stepM key s i) ∧ Fr [t, tc, th] H1 H' := fun n =>
      ⟨_, rfl, by rw [stepM, if_neg n]; exact hT, fr⟩
    refine ⟨_, rfl, _, _, _, _, rfl, ht2, rfl, rfl, _, rfl, ?_⟩
    refine if_e (m := 0) (fun c1 => ?_) fun c1 => ?_
    · have hl : i < s.had.length := by rw [L.ok.lh, hw, hh]; exact hi
      have hg : (vb s.had)[i]? = some (.bl (s.had.getD i false)) := by
        unfold vb
        rw [List.getElem?_map, List.getElem?_eq_getElem hl, List.getD_eq_getElem?_getD, List.getElem?_eq_getElem hl]
        rfl
      refine ⟨_, rfl, _, _, _, _, rfl, ht2, rfl, _, rfl, _, _, _, _, rfl, rfl, SqL.of hT.d, at_ix (j := i) (by omega) hg, _, rfl, ?_⟩
      cases c2 : s.had.getD i false with
      | true => exact if_n rfl (nope fun z => by rw [c2] at z; exact absurd z.2 (by decide))
      | false =>
        refine if_y rfl ?_
        have hwp : 1 ≤ s.w := L.ok.hw.1
        refine ⟨_, rfl, _, _, _, rfl, ht2, _, rfl, _, rfl, _, _, _, _, rfl, ht2, rfl, _, _, rfl, rfl, (by omega), _, rfl, _, rfl, _, _, _, _, rfl, ht2, rfl, _, _, rfl, rfl, ⟨by omega, by have := L.ok.hw.2; omega⟩, _, rfl, ?_⟩
        refine ⟨t, tc, th, s, ((i % s.w : Nat) : Int), ((i / s.w : Nat) : Int), key, ?_, hT, L.ok, ?_, hkey, fun H2 hT2 f2 => ⟨_, rfl, ?_, fr.trans f2⟩⟩
        · rw [Int.natCast_emod, Int.natCast_ediv, Int.zero_add]
        · have q1 := Nat.mod_lt i hwp
          have q2 := div_lt (h := s.h) hwp (by rw [hw, hh]; exact hi)
          exact ⟨Int.natCast_nonneg _, Int.ofNat_lt.mpr q1, Int.natCast_nonneg _, Int.ofNat_lt.mpr q2⟩
        · rw [stepM, if_pos ⟨c1, c2⟩]
          exact hT2
    · exact if_n rfl (nope fun z => c1 z.1)
  · rintro σ H' ⟨o, rfl, hT, fr⟩
    have eT : tickM c key = ⟨((List.range (c.w * c.h)).foldl (stepM key) (ts0 c)).w, ((List.range (c.w * c.h)).foldl (stepM key) (ts0 c)).h, ((List.range (c.w * c.h)).foldl (stepM key) (ts0 c)).cells, ((List.range (c.w * c.h)).foldl (stepM key) (ts0 c)).st, ((List.range (c.w * c.h)).foldl (stepM key) (ts0 c)).pts⟩ := rfl
    generalize (List.range (c.w * c.h)).foldl (stepM key) (ts0 c) = s at hT eT
    obtain ⟨d2, ht2⟩ := hT.t
    refine ⟨_, rfl, _, _, _, _, rfl, ht2, rfl, _, rfl, _, _, _, _, rfl, ht2, rfl, _, rfl, _, _, _, _, rfl, ht2, rfl, _, rfl, _, _, _, _, rfl, ht2, rfl, _, rfl, _, _, _, _, rfl, ht2, rfl, ?_⟩
    intro x dx hx hdx nex
    refine ⟨x, dx, tc, ⟨s.w, s.h, s.cells, s.st, s.pts⟩, rfl, upd_same, fun H2 h2 f2 => ⟨rfl, ?_⟩⟩
    have s2 : Same H' H2 := fun b o q => f2 b o (same_up (same_new hdx) hx b o q) (by
      intro z
      rw [List.mem_singleton.mp z, hx] at q
      cases q)
    have sH := fin fr
    refine k _ x ⟨fun b o q => s2 b o (sH b o q), dx, tc, ?_, ?_, ?_, htc'⟩
    · rw [eT]; exact h2
    · rw [eT]; exact s2 _ _ hT.c
    · cases z : H x with
      | none => rfl
      | some o => rw [sH _ _ z] at hx; cases hx
end
end SC
/-! SC7: caves: gems, texts written, likeness. -/
namespace SC
open PySem PySem.Spec PyProof.Rows L2
/-! ### tuple.index of whole numbers -/
def rTix (K : PySem.W.Frag) : V → List V → Hp → VK → Prop := fun x xs H Q => ∃ (p : Addr) (ys : List Nat) (z j : Nat), x = .ref p ∧ xs = [.int z] ∧ SqT K H p (vi ys) ∧ ys[j]? = some z ∧ (∀ m, m < j → ys[m]? ≠ some z) ∧ Q (.int j) H
theorem vi_get {l : List Nat} {i n : Nat} (h : l[i]? = some n) : (vi l)[i]? = some (.int (n : Nat)) := by unfold vi; rw [List.getElem?_map, h]; rfl
theorem tix_eq {its : List Value} {ys : List Nat} (r : Vals (vi ys) its) (z : Nat) {m : Nat} (hm : m < its.toArray.size) : ∃ n, ys[m]? = some n ∧ eqU (.int (z : Nat)) its.toArray[m] = decide (n = z) := by
  have e : its.length = ys.length := by rw [← r.length]; exact vi_len ys
  have hm2 : m < ys.length := by rw [← e]; simpa using hm
  have hn : ys[m]? = some ys[m] := List.getElem?_eq_getElem hm2
  obtain ⟨u, hu, ru⟩ := r.get (vi_get hn)
  have eu : its.toArray[m] = u := by
    have := (List.getElem?_eq_some_iff.mp hu).2
    simpa using this
  refine ⟨ys[m], hn, ?_⟩
  rw [eu, eqU_of ru rfl]
  show ((ys[m] : Int) == (z : Int)) = _
  rw [Bool.eq_iff_iff, beq_iff_eq, decide_eq_true_eq]
  omega
theorem mt_tixI {X : Cx} : MtR X "tuple.index" (rTix X.K) := by
  intro pins s σ H x xs v us Q I rx rs hyp
  obtain ⟨p, ys, z, j, hx, hxs, hq, hy, hno, q⟩ := hyp
  subst hx
  subst hxs
  obtain rfl : v = Value.ref p := rx
  obtain ⟨_, rfl, tk, rfl⟩ := vals1 rs
  obtain ⟨its, r, ⟨ob, hob, hcl, n, hdt⟩, _⟩ := I.tuple hq
  have full : ob = { cls := .type "tuple", dict := ob.dict, data := .seq its.toArray n, slots := ob.slots } := by
    cases ob
    simp only at hcl hdt
    rw [hcl, hdt]
  rw [full] at hob
  have jl : j < its.toArray.size := by
    rw [List.size_toArray, ← r.length, vi_len]
    exact (List.getElem?_eq_some_iff.mp hy).1
  have yes : eqU (.int (z : Nat)) its.toArray[j] = true := by
    obtain ⟨w, hw, ew⟩ := tix_eq r z jl
    rw [hy] at hw
    rw [ew, ← Option.some.inj hw]
    exact decide_eq_true rfl
  have no : ∀ m (hm : m < its.toArray.size), m < j → eqU (.int (z : Nat)) its.toArray[m] = false := fun m hm hmj => by
    obtain ⟨w, hw, ew⟩ := tix_eq r z hm
    rw [ew]
    exact decide_eq_false fun e => hno m hmj (by rw [hw, e])
  have each : ∀ y, y ∈ its.toArray → SeqAt.EqAt X.A.in1 s y (Value.int z tk) (eqU (.int (z : Nat)) y) := fun y hm =>
    mem_eqAt (x := .int (z : Nat)) ⟨tk, rfl⟩ rfl r (flat_vi ys) y (by simpa using hm)
  exact call_meets PySem.F.slot_tuple_index ⟨_, hob, rfl⟩ PySem.F.entry_tuple_index (PySem.F.args_tuple_index_2 _ _) (TI.tuple_indexAt p its.toArray n ob.dict ob.slots (Value.int z tk) _ j jl yes no)
    ⟨hob, each, ⟨V.int (j : Nat), H, I.tok _, ⟨_, rfl⟩, q⟩⟩
theorem mt_tixIK {X : Cx} {K : PySem.W.Frag} (h : X.K = K := by rfl) : MtR X "tuple.index" (rTix K) := h ▸ mt_tixI
/-! ### data -/
def dI (l : List Nat) : PyData := .list (l.map fun n => .int (n : Nat))
section
variable {K : PySem.W.Frag} {H : Hp}
theorem dpAll_vi : ∀ l : List Nat, DpAll K H (vi l) (l.map fun n => .int (n : Nat))
  | [] => .nil
  | n :: l => .cons (.int _) (dpAll_vi l)
theorem dp_dI {a : Addr} {l : List Nat} (h : SqL K H a (vi l)) : Dp K H (.ref a) (dI l) := .lst h (dpAll_vi l)
end
theorem lay_vi : ∀ l : List Nat, PyData.canLayAll0 (l.map fun n => .int (n : Nat)) = true
  | [] => rfl
  | n :: l => by
    show (PyData.canLay0 (.int (n : Nat)) && PyData.canLayAll0 (l.map fun n => .int (n : Nat))) = true
    rw [lay_vi l]; rfl
theorem dep_vi : ∀ l : List Nat, PyData.depthAll (l.map fun n => .int (n : Nat)) ≤ 1
  | [] => by simp [PyData.depthAll]
  | n :: l => by
    show PyData.depthAll (.int (n : Nat) :: l.map fun n => .int (n : Nat)) ≤ 1
    rw [PyData.depthAll]
    exact Nat.max_le.mpr ⟨by simp [PyData.depth], dep_vi l⟩
theorem lay_dI (l : List Nat) : PyData.canLay0 (dI l) = true := lay_vi l
theorem dep_dI (l : List Nat) : PyData.depth (dI l) ≤ 2 := by
  unfold dI
  rw [PyData.depth]
  exact Nat.succ_le_succ (dep_vi l)
theorem shaped_dI (l : List Nat) : SeqAt.shaped (dI l) = true := by
  unfold SeqAt.shaped
  rw [lay_dI, decide_eq_true (Nat.le_trans (dep_dI l) (by decide))]; rfl
theorem eqv_vi : ∀ a b : List Nat, PyData.eqvAll (a.map fun n => .int (n : Nat)) (b.map fun n => .int (n : Nat)) = decide (a = b)
  | [], [] => by simp [PyData.eqvAll]
  | [], _ :: _ => by simp [PyData.eqvAll]
  | _ :: _, [] => by simp [PyData.eqvAll]
  | x :: a, y :: b => by
    show (((x : Int) == (y : Int)) && PyData.eqvAll (a.map fun n => .int (n : Nat)) (b.map fun n => .int (n : Nat))) = _
    rw [eqv_vi a b, Bool.eq_iff_iff, Bool.and_eq_true, beq_iff_eq, decide_eq_true_eq, decide_eq_true_eq, List.cons.injEq]
    constructor <;> (rintro ⟨h1, h2⟩; exact ⟨by omega, h2⟩)
theorem eqv_dI (a b : List Nat) : PyData.eqv (dI a) (dI b) = decide (a = b) := eqv_vi a b
/-! ### a cave's defs -/
def CM.gems (c : CM) : Nat := c.cells.count 5 + c.cells.count 6
def sgnL : List Nat := [32, 58, 35, 111, 79, 42, 43, 64, 62, 118, 60, 94, 69]
def rowC (c : CM) (y : Nat) : List Nat := (((c.cells.drop (y * c.w)).take c.w).map fun v => sgnL.getD v 32) ++ [10]
def CM.text (c : CM) : List Nat := (List.range c.h).flatMap (rowC c)
def CM.like (a b : CM) : Bool := decide (a.w = b.w ∧ a.cells = b.cells ∧ a.st = b.st ∧ a.pts = b.pts)
def spCGems (A : Ad) : Sp := fun vs H Q _ => ∃ (a : Addr) (c : CM), vs = [.ref a] ∧ CaveAt A H a c ∧ Q (.int c.gems) H
def spCText (A : Ad) : Sp := fun vs H Q _ => ∃ (a : Addr) (c : CM), vs = [.ref a] ∧ CaveAt A H a c ∧ c.Ok ∧ ∀ H' p, Same H H' → H p = none → H' p = some (.lst (vi c.text)) → Q (.ref p) H'
def spCLike (A : Ad) : Sp := fun vs H Q _ => ∃ (a b : Addr) (c d : CM), vs = [.ref a, .ref b] ∧ CaveAt A H a c ∧ CaveAt A H b d ∧ ∀ H', Same H H' → Q (.bl (c.like d)) H'
theorem vi_ints (l : List Nat) : vi l = (l.map fun n : Nat => (n : Int)).map V.int := by unfold vi; rw [List.map_map]; rfl
theorem count_ints (l : List Nat) (k : Nat) : (l.map fun n : Nat => (n : Int)).count (k : Int) = l.count k := by
  induction l with
  | nil => rfl
  | cons a l ih =>
    rw [List.map_cons, List.count_cons, List.count_cons, ih]
    congr 1
    by_cases h : a = k
    · rw [if_pos (by simp [h]), if_pos (by simp [h])]
    · rw [if_neg (by simp; omega), if_neg (by simp [h])]
theorem vi_app (a b : List Nat) : vi (a ++ b) = vi a ++ vi b := by unfold vi; rw [List.map_append]
theorem cut_row {l : List V} {i j : Nat} (hj : j ≤ l.length) (hij : i ≤ j) : cutV l (some (i : Int)) (some (j : Int)) = (l.drop i).take (j - i) := by
  unfold cutV
  rw [HT.sIx_nat, HT.sIx_nat, Nat.min_eq_left (Nat.le_trans hij hj), Nat.min_eq_left hj]
section
variable {P : Program} {w : World} {K : PySem.W.Frag} {mg : Str → Option Value} {base : Heap} {A : Ad}
theorem sc_Cave_gems : FnScope ["self"] ["self"] (defScope (inClass (topS 17) 1)) := ⟨rfl, rfl, rfl, by decide +kernel, rfl, by decide +kernel, by decide +kernel⟩
theorem sc_Cave_written : FnScope ["self", "found", "y", "cell"] ["self"] (defScope (inClass (topS 17) 2)) := ⟨rfl, rfl, rfl, by decide +kernel, rfl, by decide +kernel, by decide +kernel⟩
theorem sc_Cave_is_like : FnScope ["self", "other"] ["self", "other"] (defScope (inClass (topS 17) 3)) := ⟨rfl, rfl, rfl, by decide +kernel, rfl, by decide +kernel, by decide +kernel⟩
theorem m_Cave_gems (T : Txt K mg A) : MethOk P w K mg base CX0 1 A.cave "gems" ["self"] (spCGems A) := by
  refine T.d_Cave_gems.ok (N := ["self"]) sc_Cave_gems (fun vs H Q E h => (by first | (obtain ⟨rfl, _⟩ := h; rfl) | (obtain ⟨_, rfl, _⟩ := h; rfl) | (obtain ⟨_, _, rfl, _⟩ := h; rfl) | (obtain ⟨_, _, _, rfl, _⟩ := h; rfl) | (obtain ⟨_, _, _, _, rfl, _⟩ := h; rfl) | (obtain ⟨_, _, _, _, _, rfl, _⟩ := h; rfl) | (obtain ⟨_, _, _, _, _, _, rfl, _⟩ := h; rfl) | (obtain ⟨_, _, _, _, _, _, _, rfl, _⟩ := h; rfl) | (obtain ⟨_, _, _, _, _, _, _, _, rfl, _⟩ := h; rfl) | (obtain ⟨_, _, _, _, _, _, _, _, _, rfl, _⟩ := h; rfl) | (obtain ⟨_, _, _, _, _, _, _, _, _, _, rfl, _⟩ := h; rfl) | (obtain ⟨_, _, _, _, _, _, _, _, _, _, _, rfl, _⟩ := h; rfl) | (obtain ⟨_, _, _, _, _, _, _, _, _, _, _, _, rfl, _⟩ := h; rfl) | (obtain ⟨_, _, _, _, _, _, _, _, _, _, _, _, _, rfl, _⟩ := h; rfl) | (obtain ⟨rfl⟩ := h; rfl) | (obtain ⟨_, rfl⟩ := h; rfl) | (obtain ⟨_, _, rfl⟩ := h; rfl) | (obtain ⟨_, _, _, rfl⟩ := h; rfl) | (obtain ⟨_, _, _, _, rfl⟩ := h; rfl) | (obtain ⟨_, _, _, _, _, rfl⟩ := h; rfl) | (obtain ⟨_, _, _, _, _, _, rfl⟩ := h; rfl) | (obtain ⟨_, _, _, _, _, _, _, rfl⟩ := h; rfl) | (obtain ⟨_, _, _, _, _, _, _, _, rfl⟩ := h; rfl) | (obtain ⟨_, _, _, _, _, _, _, _, _, rfl⟩ := h; rfl) | (obtain ⟨_, _, _, _, _, _, _, _, _, _, rfl⟩ := h; rfl) | (obtain ⟨_, _, _, _, _, _, _, _, _, _, _, rfl⟩ := h; rfl) | (obtain ⟨_, _, _, _, _, _, _, _, _, _, _, _, rfl⟩ := h; rfl) | (obtain ⟨_, _, _, _, _, _, _, _, _, _, _, _, _, rfl⟩ := h; rfl))) (fun _ _ _ _ _ _ us hl => match us, hl with | [_], _ => rfl) (fun f cdv A0 outer s H vs Q E hr h => ⟨_, (pss_one (ps_ret (pe_op op_add (pe_bm PySem.F.plainAttrs_list PySem.F.slot_list_count PySem.F.type_list_count mt_lcount (pe_get (ks := kCave) (i := 2) T.cCave T.nCave_cells (by decide +kernel) (pv 0)) (pa_cons (pe_gi T.i_GEM) pa_nil)) (pe_bm PySem.F.plainAttrs_list PySem.F.slot_list_count PySem.F.type_list_count mt_lcount (pe_get (ks := kCave) (i := 2) T.cCave T.nCave_cells (by decide +kernel) (pv 0)) (pa_cons (pe_gi T.i_FALLING_GEM) pa_nil))))), ?_⟩)
  obtain ⟨a, c, rfl, ⟨dx, ca, ha, hc⟩, k⟩ := h
  rw [vi_ints] at hc
  refine ⟨_, rfl, _, _, _, _, rfl, ha, rfl, .inl ⟨rfl, _, SqL.of hc⟩, _, _, _, rfl, rfl, SqL.of hc, _, rfl, _, _, _, _, rfl, ha, rfl, .inl ⟨rfl, _, SqL.of hc⟩, _, _, _, rfl, rfl, SqL.of hc, _, _, rfl, rfl, ?_⟩
  refine q_of (Q := Q) k (congrArg V.int ?_)
  show (((c.cells.map fun n : Nat => (n : Int)).count ((5 : Nat) : Int) : Nat) : Int) + (((c.cells.map fun n : Nat => (n : Int)).count ((6 : Nat) : Int) : Nat) : Int) = _
  rw [count_ints, count_ints]
  unfold CM.gems
  omega
theorem m_Cave_is_like (T : Txt K mg A) : MethOk P w K mg base CX0 1 A.cave "is_like" ["self", "other"] (spCLike A) := by
  refine T.d_Cave_is_like.ok (N := ["self", "other"]) sc_Cave_is_like (fun vs H Q E h => (by first | (obtain ⟨rfl, _⟩ := h; rfl) | (obtain ⟨_, rfl, _⟩ := h; rfl) | (obtain ⟨_, _, rfl, _⟩ := h; rfl) | (obtain ⟨_, _, _, rfl, _⟩ := h; rfl) | (obtain ⟨_, _, _, _, rfl, _⟩ := h; rfl) | (obtain ⟨_, _, _, _, _, rfl, _⟩ := h; rfl) | (obtain ⟨_, _, _, _, _, _, rfl, _⟩ := h; rfl) | (obtain ⟨_, _, _, _, _, _, _, rfl, _⟩ := h; rfl) | (obtain ⟨_, _, _, _, _, _, _, _, rfl, _⟩ := h; rfl) | (obtain ⟨_, _, _, _, _, _, _, _, _, rfl, _⟩ := h; rfl) | (obtain ⟨_, _, _, _, _, _, _, _, _, _, rfl, _⟩ := h; rfl) | (obtain ⟨_, _, _, _, _, _, _, _, _, _, _, rfl, _⟩ := h; rfl) | (obtain ⟨_, _, _, _, _, _, _, _, _, _, _, _, rfl, _⟩ := h; rfl) | (obtain ⟨_, _, _, _, _, _, _, _, _, _, _, _, _, rfl, _⟩ := h; rfl) | (obtain ⟨rfl⟩ := h; rfl) | (obtain ⟨_, rfl⟩ := h; rfl) | (obtain ⟨_, _, rfl⟩ := h; rfl) | (obtain ⟨_, _, _, rfl⟩ := h; rfl) | (obtain ⟨_, _, _, _, rfl⟩ := h; rfl) | (obtain ⟨_, _, _, _, _, rfl⟩ := h; rfl) | (obtain ⟨_, _, _, _, _, _, rfl⟩ := h; rfl) | (obtain ⟨_, _, _, _, _, _, _, rfl⟩ := h; rfl) | (obtain ⟨_, _, _, _, _, _, _, _, rfl⟩ := h; rfl) | (obtain ⟨_, _, _, _, _, _, _, _, _, rfl⟩ := h; rfl) | (obtain ⟨_, _, _, _, _, _, _, _, _, _, rfl⟩ := h; rfl) | (obtain ⟨_, _, _, _, _, _, _, _, _, _, _, rfl⟩ := h; rfl) | (obtain ⟨_, _, _, _, _, _, _, _, _, _, _, _, rfl⟩ := h; rfl) | (obtain ⟨_, _, _, _, _, _, _, _, _, _, _, _, _, rfl⟩ := h; rfl))) (fun _ _ _ _ _ _ us hl => match us, hl with | [_, _], _ => rfl) (fun f cdv A0 outer s H vs Q E hr h => ⟨_, (pss_one (ps_ret (pe_cmpR (op_eqD hr.units) (pe_tup (pa_cons (pe_get (ks := kCave) (i := 0) T.cCave T.nCave_wide (by decide +kernel) (pv 0)) (pa_cons (pe_get (ks := kCave) (i := 2) T.cCave T.nCave_cells (by decide +kernel) (pv 0)) (pa_cons (pe_get (ks := kCave) (i := 3) T.cCave T.nCave_standing (by decide +kernel) (pv 0)) (pa_cons (pe_get (ks := kCave) (i := 4) T.cCave T.nCave_points (by decide +kernel) (pv 0)) pa_nil))))) (pe_tup (pa_cons (pe_get (ks := kCave) (i := 0) T.cCave T.nCave_wide (by decide +kernel) (pv 1)) (pa_cons (pe_get (ks := kCave) (i := 2) T.cCave T.nCave_cells (by decide +kernel) (pv 1)) (pa_cons (pe_get (ks := kCave) (i := 3) T.cCave T.nCave_standing (by decide +kernel) (pv 1)) (pa_cons (pe_get (ks := kCave) (i := 4) T.cCave T.nCave_points (by decide +kernel) (pv 1)) pa_nil))))) (nomark _)))), ?_⟩)
  obtain ⟨a, b, c, d, rfl, ⟨dx, ca, ha, hc⟩, ⟨dy, cb, hb, hd⟩, k⟩ := h
  refine ⟨_, rfl, _, _, _, _, rfl, ha, rfl, _, rfl, _, _, _, _, rfl, ha, rfl, _, rfl, _, _, _, _, rfl, ha, rfl, _, rfl, _, _, _, _, rfl, ha, rfl, (by show 4 ≤ sizeLine; decide), fun p hp => ?_⟩
  have s1 := same_new (o := .tup [.int c.w, .ref ca, .int c.st, .int c.pts]) hp
  refine ⟨_, rfl, _, _, _, _, rfl, s1 _ _ hb, rfl, _, rfl, _, _, _, _, rfl, s1 _ _ hb, rfl, _, rfl, _, _, _, _, rfl, s1 _ _ hb, rfl, _, rfl, _, _, _, _, rfl, s1 _ _ hb, rfl, (by show 4 ≤ sizeLine; decide), fun q hq => ?_⟩
  have s2 := same_new (o := .tup [.int d.w, .ref cb, .int d.st, .int d.pts]) hq
  have sh : ∀ (w st pts : Nat) (l : List Nat), SeqAt.shaped (.tuple [.int w, dI l, .int st, .int pts]) = true := fun w st pts l => by
    unfold SeqAt.shaped
    have e1 : PyData.canLay0 (.tuple [.int w, dI l, .int st, .int pts]) = true := by
      show (true && (PyData.canLay0 (dI l) && (true && (true && true)))) = true
      rw [lay_dI]; rfl
    have e2 : PyData.depth (.tuple [.int w, dI l, .int st, .int pts]) ≤ 64 := by
      have := dep_dI l
      simp only [PyData.depth, PyData.depthAll]
      omega
    rw [e1, decide_eq_true e2]; rfl
  refine ⟨.tuple [.int c.w, dI c.cells, .int c.st, .int c.pts], .tuple [.int d.w, dI d.cells, .int d.st, .int d.pts], ?_, ?_, sh _ _ _ _, sh _ _ _ _, ?_⟩
  · exact .tup (SqT.of (s2 _ _ upd_same)) (.cons (.int _) (.cons (dp_dI (SqL.of (s2 _ _ (s1 _ _ hc)))) (.cons (.int _) (.cons (.int _) .nil))))
  · exact .tup (SqT.of upd_same) (.cons (.int _) (.cons (dp_dI (SqL.of (s2 _ _ (s1 _ _ hd)))) (.cons (.int _) (.cons (.int _) .nil))))
  · refine q_of (Q := Q) (k _ fun b o z => s2 b o (s1 b o z)) (congrArg V.bl ?_)
    show (((c.w : Int) == (d.w : Int)) && (PyData.eqv (dI c.cells) (dI d.cells) && (((c.st : Int) == (d.st : Int)) && (((c.pts : Int) == (d.pts : Int)) && PyData.eqvAll [] [])))) = _
    rw [eqv_dI, show PyData.eqvAll [] [] = true by simp [PyData.eqvAll]]
    unfold CM.like
    rw [Bool.eq_iff_iff]
    simp only [Bool.and_eq_true, beq_iff_eq, decide_eq_true_eq, and_true]
    constructor
    · rintro ⟨h1, h2, h3, h4⟩
      exact ⟨by omega, h2, by omega, by omega⟩
    · rintro ⟨h1, h2, h3, h4⟩
      exact ⟨by omega, h2, by omega, by omega⟩
end
end SC
/-! SC8: caves: texts written; rows of a text. -/
namespace SC
open PySem PySem.Spec PyProof.Rows L2
theorem rowC_len {c : CM} (ok : c.Ok) (y : Nat) : (rowC c y).length ≤ 21 := by
  unfold rowC
  rw [List.length_append, List.length_map, List.length_take]
  have := ok.hw
  show min c.w _ + 1 ≤ 21
  omega
theorem text_len {c : CM} (ok : c.Ok) : ∀ i, ((List.range i).flatMap (rowC c)).length ≤ i * 21
  | 0 => Nat.le_refl _
  | i + 1 => by
    rw [List.range_succ, List.flatMap_append, List.length_append]
    have h1 := text_len ok i
    have h2 := rowC_len ok i
    have h3 : ([i].flatMap (rowC c)).length = (rowC c i).length := by simp
    omega
theorem row_cut {c : CM} (ok : c.Ok) {i : Nat} (hi : i < c.h) : cutV (vi c.cells) (some ((0 + (i : Int)) * c.w)) (some ((0 + (i : Int) + 1) * c.w)) = vi ((c.cells.drop (i * c.w)).take c.w) := by
  have e1 : (0 + (i : Int)) * c.w = ((i * c.w : Nat) : Int) := by rw [Int.zero_add, Int.natCast_mul]
  have e2 : (0 + (i : Int) + 1) * c.w = (((i + 1) * c.w : Nat) : Int) := by rw [Int.zero_add, Int.natCast_mul, Int.natCast_add]; rfl
  have h1 : (i + 1) * c.w ≤ c.h * c.w := Nat.mul_le_mul_right _ hi
  have h2 : (i + 1) * c.w = i * c.w + c.w := Nat.succ_mul _ _
  rw [e1, e2, cut_row (by rw [vi_len, ok.lc, Nat.mul_comm c.w]; exact h1) (by omega)]
  unfold vi
  rw [← List.map_drop, ← List.map_take, show (i + 1) * c.w - i * c.w = c.w by omega]
theorem take_snoc {α : Type} {l : List α} {i : Nat} {x : α} (h : l[i]? = some x) : l.take (i + 1) = l.take i ++ [x] := by
  rw [List.take_add_one, h]; rfl
theorem vi_of {l : List Nat} {i : Nat} {x : V} (h : (vi l)[i]? = some x) : ∃ n, l[i]? = some n ∧ x = .int (n : Nat) := by
  unfold vi at h
  rw [List.getElem?_map] at h
  cases e : l[i]? with
  | none => rw [e] at h; cases h
  | some n => rw [e] at h; exact ⟨n, rfl, (Option.some.inj h).symm⟩
section
variable {P : Program} {w : World} {K : PySem.W.Frag} {mg : Str → Option Value} {base : Heap} {A : Ad}
theorem m_Cave_written (T : Txt K mg A) : MethOk P w K mg base CX0 1 A.cave "written" ["self"] (spCText A) := by
  refine T.d_Cave_written.ok (N := ["self", "found", "y", "cell"]) sc_Cave_written (fun vs H Q E h => (by first | (obtain ⟨rfl, _⟩ := h; rfl) | (obtain ⟨_, rfl, _⟩ := h; rfl) | (obtain ⟨_, _, rfl, _⟩ := h; rfl) | (obtain ⟨_, _, _, rfl, _⟩ := h; rfl) | (obtain ⟨_, _, _, _, rfl, _⟩ := h; rfl) | (obtain ⟨_, _, _, _, _, rfl, _⟩ := h; rfl) | (obtain ⟨_, _, _, _, _, _, rfl, _⟩ := h; rfl) | (obtain ⟨_, _, _, _, _, _, _, rfl, _⟩ := h; rfl) | (obtain ⟨_, _, _, _, _, _, _, _, rfl, _⟩ := h; rfl) | (obtain ⟨_, _, _, _, _, _, _, _, _, rfl, _⟩ := h; rfl) | (obtain ⟨_, _, _, _, _, _, _, _, _, _, rfl, _⟩ := h; rfl) | (obtain ⟨_, _, _, _, _, _, _, _, _, _, _, rfl, _⟩ := h; rfl) | (obtain ⟨_, _, _, _, _, _, _, _, _, _, _, _, rfl, _⟩ := h; rfl) | (obtain ⟨_, _, _, _, _, _, _, _, _, _, _, _, _, rfl, _⟩ := h; rfl) | (obtain ⟨rfl⟩ := h; rfl) | (obtain ⟨_, rfl⟩ := h; rfl) | (obtain ⟨_, _, rfl⟩ := h; rfl) | (obtain ⟨_, _, _, rfl⟩ := h; rfl) | (obtain ⟨_, _, _, _, rfl⟩ := h; rfl) | (obtain ⟨_, _, _, _, _, rfl⟩ := h; rfl) | (obtain ⟨_, _, _, _, _, _, rfl⟩ := h; rfl) | (obtain ⟨_, _, _, _, _, _, _, rfl⟩ := h; rfl) | (obtain ⟨_, _, _, _, _, _, _, _, rfl⟩ := h; rfl) | (obtain ⟨_, _, _, _, _, _, _, _, _, rfl⟩ := h; rfl) | (obtain ⟨_, _, _, _, _, _, _, _, _, _, rfl⟩ := h; rfl) | (obtain ⟨_, _, _, _, _, _, _, _, _, _, _, rfl⟩ := h; rfl) | (obtain ⟨_, _, _, _, _, _, _, _, _, _, _, _, rfl⟩ := h; rfl) | (obtain ⟨_, _, _, _, _, _, _, _, _, _, _, _, _, rfl⟩ := h; rfl))) (fun _ _ _ _ _ _ us hl => match us, hl with | [_], _ => rfl) (fun f cdv A0 outer s H vs Q E hr h => ⟨_, (pss_cons (ps_set (i := 1) sc_Cave_written.nd rfl (by first | exact Or.inl rfl | exact Or.inr rfl) (pe_lst pa_nil))
      (pss_cons (ps_for PassesOwn.never rfl (pi_range1 rfl T.b_range (pa_cons (pe_get (ks := kCave) (i := 1) T.cCave T.nCave_high (by decide +kernel) (pv 0)) pa_nil)) (pg_name (i := 2) sc_Cave_written.nd rfl (by first | exact Or.inl rfl | exact Or.inr rfl)) (pss_cons (ps_expr (pe_bm PySem.F.plainAttrs_list PySem.F.slot_list_extend PySem.F.type_list_extend mt_extend (pv 1) (pa_cons (pe_lc (own := [("cell", 3)]) (g := gName 3) (by rfl) sc_Cave_written.nd (pi_list (pe_slice sl_list (pe_get (ks := kCave) (i := 2) T.cCave T.nCave_cells (by decide +kernel) (pv 0)) (po_some (pe_op op_mul (pv 2) (pe_get (ks := kCave) (i := 0) T.cCave T.nCave_wide (by decide +kernel) (pv 0)))) (po_some (pe_op op_mul (pe_op op_add (pv 2) pe_int) (pe_get (ks := kCave) (i := 0) T.cCave T.nCave_wide (by decide +kernel) (pv 0)))))) (blkOk_by (own := [("cell", 3)]) (N := ["self", "found", "y", "cell"]) (sc := defScope (inClass (topS 17) 2)) (by decide +kernel)) (fun _ _ _ _ _ => pg_name (i := 3) sc_Cave_written.nd rfl (Or.inl rfl)) (fun _ _ _ _ _ => pts_nil) (fun _ _ _ _ _ => (pe_ix (ix_tupK (K := K)) (pe_gr T.g_BYTES) (pv 3) (fun _ _ => rfl)))) pa_nil)))
      (pss_one (ps_expr (pe_bm PySem.F.plainAttrs_list PySem.F.slot_list_append PySem.F.type_list_append mt_append (pv 1) (pa_cons (pe_gi T.i_LINE_END) pa_nil))))))
      (pss_one (ps_ret (pv 1))))), ?_⟩)
  obtain ⟨a, c, rfl, ⟨dx, ca, ha, hc⟩, ok, k⟩ := h
  refine ⟨(by show 0 ≤ sizeLine; decide), fun fd hfd => ?_⟩
  have nc : ca ≠ fd := ne_of_none hc hfd
  refine ⟨_, rfl, _, _, _, _, rfl, same_new hfd _ _ ha, rfl, _, rfl, by have := ok.hh; omega, by have := ok.hh; omega, ?_⟩
  rw [Int.toNat_natCast]
  refine for_range (n := c.h) (fun i σ H' => ∃ o, σ = [some (.ref a), some (.ref fd), o, none] ∧ Same H H' ∧ H' fd = some (.lst (vi ((List.range i).flatMap (rowC c)))))
    ⟨none, rfl, same_new hfd, upd_same⟩ ?_ ?_
  · rintro i σ H1 hi ⟨o, rfl, s1, h1⟩
    have z1 := text_len ok i
    have hh := ok.hh
    have hw := ok.hw
    refine ⟨_, rfl, .inl ⟨rfl, _, SqL.of h1⟩, ?_⟩
    refine ⟨_, rfl, _, _, _, _, rfl, s1 _ _ ha, rfl, _, rfl, _, rfl, _, _, _, _, rfl, s1 _ _ ha, rfl, _, _, rfl, rfl, .inr ⟨by omega, by omega⟩, _, rfl,
      _, rfl, _, _, rfl, rfl, _, rfl, _, _, _, _, rfl, s1 _ _ ha, rfl, _, _, rfl, rfl, .inr ⟨by omega, by omega⟩, _, rfl, _, _, rfl, SqL.of (s1 _ _ hc), fun p hp => ⟨p, rfl, ⟨_, SqL.of upd_same⟩, fun D hD => ?_⟩⟩
    have s2 := same_new (o := .lst (cutV (vi c.cells) (some ((0 + (i : Int)) * c.w)) (some ((0 + (i : Int) + 1) * c.w)))) hp
    have h2 := s2 _ _ h1
    have p2 : upd H1 p (.lst (cutV (vi c.cells) (some ((0 + (i : Int)) * c.w)) (some ((0 + (i : Int) + 1) * c.w)))) p = some (.lst (cutV (vi c.cells) (some ((0 + (i : Int)) * c.w)) (some ((0 + (i : Int) + 1) * c.w)))) := upd_same
    refine lc_list (K := K) (a := p) (xs := cutV (vi c.cells) (some ((0 + (i : Int)) * c.w)) (some ((0 + (i : Int) + 1) * c.w)))
      (fun j H' => H' = upd (upd H1 p (.lst (cutV (vi c.cells) (some ((0 + (i : Int)) * c.w)) (some ((0 + (i : Int) + 1) * c.w))))) D (.lst (vi ((((c.cells.drop (i * c.w)).take c.w).take j).map fun v => sgnL.getD v 32)))) rfl
      (fun j H' _ e => by rw [e]; exact SqL.of (same_new hD _ _ p2)) ?_ ?_
    · rintro j x H' hx rfl
      rw [row_cut ok hi] at hx
      obtain ⟨n, hn, rfl⟩ := vi_of hx
      have hn12 : n < 13 := by
        have m1 : n ∈ c.cells := List.mem_of_mem_drop (List.mem_of_mem_take (List.mem_of_getElem? hn))
        have := ok.c12 n m1
        omega
      have hg : sgnL[n]? = some (sgnL.getD n 32) := by
        rw [List.getD_eq_getElem?_getD, List.getElem?_eq_getElem (show n < sgnL.length from hn12)]; rfl
      refine ⟨rfl, ?_⟩
      refine ⟨_, rfl, _, _, _, _, rfl, rfl, T.t_BYTES.sq, at_ix (j := n) rfl (vi_get hg), _, upd_same, small1000 ?_, ?_⟩
      · rw [vi_len, List.length_map, List.length_take, List.length_take]; omega
      · show upd _ _ _ = _
        rw [upd_upd, take_snoc hn, List.map_append, vi_app]
        rfl
    · rintro H' rfl
      have el : (cutV (vi c.cells) (some ((0 + (i : Int)) * c.w)) (some ((0 + (i : Int) + 1) * c.w))).length = ((c.cells.drop (i * c.w)).take c.w).length := by rw [row_cut ok hi, vi_len]
      rw [el, List.take_length]
      have s3 := same_new (o := .lst (vi (((c.cells.drop (i * c.w)).take c.w).map fun v => sgnL.getD v 32))) hD
      have nD : D ≠ fd := Ne.symm (ne_of_none h2 hD)
      refine ⟨fd, D, _, _, rfl, rfl, s3 _ _ h2, upd_same, ?_, ?_⟩
      · rw [vi_len, vi_len, List.length_map, List.length_take]
        exact Nat.le_of_lt (small1000 (by omega))
      refine ⟨_, rfl, .inl ⟨rfl, _, SqL.of upd_same⟩, fd, _, _, rfl, rfl, upd_same, small1000 ?_, _, rfl, ?_, ?_⟩
      · rw [List.length_append, vi_len, vi_len, List.length_map, List.length_take]; omega
      · intro b u q
        have nb : b ≠ fd := ne_of_none q hfd
        rw [upd_ne nb, upd_ne nb]
        exact s3 _ _ (s2 _ _ (s1 _ _ q))
      · rw [upd_same, List.range_succ, List.flatMap_append, vi_app, List.flatMap_singleton]
        unfold rowC
        rw [vi_app, List.append_assoc]
        rfl
  · rintro σ H' ⟨o, rfl, s1, h1⟩
    exact ⟨_, rfl, k _ fd s1 hfd h1⟩
end
/-! ### rows of a text -/
def rowsStep (s : List (List Nat) × List Nat) (b : Nat) : List (List Nat) × List Nat := if b = 10 then (s.1 ++ [s.2], []) else (s.1, s.2 ++ [b])
def rowsRun (l : List Nat) : List (List Nat) × List Nat := l.foldl rowsStep ([], [])
def rowsM (l : List Nat) : List (List Nat) := if (rowsRun l).2 = [] then (rowsRun l).1 else (rowsRun l).1 ++ [(rowsRun l).2]
/-- at each address a row -/
abbrev RowsL (H : Hp) : List Addr → List (List Nat) → Prop := Paired fun a r => H a = some (.lst (vi r))
theorem RowsL.mono {H H' : Hp} {as : List Addr} {rs : List (List Nat)} (h : RowsL H as rs) (e : ∀ a o, a ∈ as → H a = some o → H' a = some o) : RowsL H' as rs := by
  induction h with
  | nil => exact .nil
  | cons r t ih => exact .cons (e _ _ (List.mem_cons_self ..) r) (ih fun a o m => e a o (List.mem_cons_of_mem _ m))
theorem RowsL.snoc {H : Hp} {as : List Addr} {rs : List (List Nat)} {a : Addr} {r : List Nat} (h : RowsL H as rs) (e : H a = some (.lst (vi r))) : RowsL H (as ++ [a]) (rs ++ [r]) := by
  induction h with
  | nil => exact .cons e .nil
  | cons r t ih => exact .cons r ih
theorem RowsL.len {H : Hp} {as : List Addr} {rs : List (List Nat)} (h : RowsL H as rs) : as.length = rs.length := Paired.length h
theorem RowsL.mem {H : Hp} {as : List Addr} {rs : List (List Nat)} (h : RowsL H as rs) {a : Addr} (m : a ∈ as) : ∃ u, H a = some u := by
  induction h with
  | nil => simp at m
  | cons r t ih =>
    rcases List.mem_cons.mp m with e | m
    · exact ⟨_, by rw [e]; exact r⟩
    · exact ih m
def vr (as : List Addr) : List V := as.map .ref
theorem vr_app (a b : List Addr) : vr (a ++ b) = vr a ++ vr b := by unfold vr; rw [List.map_append]
theorem vr_len (a : List Addr) : (vr a).length = a.length := List.length_map _
def RowsAt (H : Hp) (p : Addr) (rs : List (List Nat)) : Prop := ∃ as, H p = some (.lst (vr as)) ∧ RowsL H as rs
def spRows (K : PySem.W.Frag) : Sp := fun vs H Q _ => ∃ (a : Addr) (l : List Nat), vs = [.ref a] ∧ SqL K H a (vi l) ∧ l.length ≤ 400 ∧ ∀ H' p, Same H H' → H p = none → RowsAt H' p (rowsM l) → Q (.ref p) H'
theorem sq_same {K : PySem.W.Frag} {H H' : Hp} {a : Addr} {xs : List V} (e : Same H H') (h : SqL K H a xs) : SqL K H' a xs := e.seq h
theorem rowsRun_le (l : List Nat) : ∀ i, (rowsRun (l.take i)).1.length ≤ i ∧ (rowsRun (l.take i)).2.length ≤ i := by
  intro i
  induction i with
  | zero => simp [rowsRun]
  | succ i ih =>
    cases e : l[i]? with
    | none => rw [List.take_add_one, e, Option.toList, List.append_nil]; exact ⟨Nat.le_succ_of_le ih.1, Nat.le_succ_of_le ih.2⟩
    | some n =>
      rw [take_snoc e]
      unfold rowsRun at ih ⊢
      rw [List.foldl_append]
      show (rowsStep _ n).1.length ≤ i + 1 ∧ (rowsStep _ n).2.length ≤ i + 1
      unfold rowsStep
      split
      · rw [List.length_append]; exact ⟨Nat.succ_le_succ ih.1, Nat.zero_le _⟩
      · rw [List.length_append]; exact ⟨Nat.le_succ_of_le ih.1, Nat.succ_le_succ ih.2⟩
section
variable {P : Program} {w : World} {K : PySem.W.Frag} {mg : Str → Option Value} {base : Heap} {A : Ad}
theorem sc_rows_in : FnScope ["row", "found", "byte"] ["row"] (defScope (topS 18)) := ⟨rfl, rfl, rfl, by decide +kernel, rfl, by decide +kernel, by decide +kernel⟩
theorem g_rows_in (T : Txt K mg A) : CallOk P w K mg base CX0 1 "rows_in" ["row"] (spRows K) := by
  refine T.d_rows_in.ok (N := ["row", "found", "byte"]) sc_rows_in (fun vs H Q E h => (by first | (obtain ⟨rfl, _⟩ := h; rfl) | (obtain ⟨_, rfl, _⟩ := h; rfl) | (obtain ⟨_, _, rfl, _⟩ := h; rfl) | (obtain ⟨_, _, _, rfl, _⟩ := h; rfl) | (obtain ⟨_, _, _, _, rfl, _⟩ := h; rfl) | (obtain ⟨_, _, _, _, _, rfl, _⟩ := h; rfl) | (obtain ⟨_, _, _, _, _, _, rfl, _⟩ := h; rfl) | (obtain ⟨_, _, _, _, _, _, _, rfl, _⟩ := h; rfl) | (obtain ⟨_, _, _, _, _, _, _, _, rfl, _⟩ := h; rfl) | (obtain ⟨_, _, _, _, _, _, _, _, _, rfl, _⟩ := h; rfl) | (obtain ⟨_, _, _, _, _, _, _, _, _, _, rfl, _⟩ := h; rfl) | (obtain ⟨_, _, _, _, _, _, _, _, _, _, _, rfl, _⟩ := h; rfl) | (obtain ⟨_, _, _, _, _, _, _, _, _, _, _, _, rfl, _⟩ := h; rfl) | (obtain ⟨_, _, _, _, _, _, _, _, _, _, _, _, _, rfl, _⟩ := h; rfl) | (obtain ⟨rfl⟩ := h; rfl) | (obtain ⟨_, rfl⟩ := h; rfl) | (obtain ⟨_, _, rfl⟩ := h; rfl) | (obtain ⟨_, _, _, rfl⟩ := h; rfl) | (obtain ⟨_, _, _, _, rfl⟩ := h; rfl) | (obtain ⟨_, _, _, _, _, rfl⟩ := h; rfl) | (obtain ⟨_, _, _, _, _, _, rfl⟩ := h; rfl) | (obtain ⟨_, _, _, _, _, _, _, rfl⟩ := h; rfl) | (obtain ⟨_, _, _, _, _, _, _, _, rfl⟩ := h; rfl) | (obtain ⟨_, _, _, _, _, _, _, _, _, rfl⟩ := h; rfl) | (obtain ⟨_, _, _, _, _, _, _, _, _, _, rfl⟩ := h; rfl) | (obtain ⟨_, _, _, _, _, _, _, _, _, _, _, rfl⟩ := h; rfl) | (obtain ⟨_, _, _, _, _, _, _, _, _, _, _, _, rfl⟩ := h; rfl) | (obtain ⟨_, _, _, _, _, _, _, _, _, _, _, _, _, rfl⟩ := h; rfl))) (fun _ _ _ _ _ _ us hl => match us, hl with | [_], _ => rfl) (fun f cdv A0 outer s H vs Q E hr h => ⟨_, (pss_cons (ps_set (i := 1) sc_rows_in.nd rfl (by first | exact Or.inl rfl | exact Or.inr rfl) (pe_lst (pa_cons (pe_lst pa_nil) pa_nil)))
      (pss_cons (ps_for PassesOwn.never rfl (pi_list (pv 0)) (pg_name (i := 2) sc_rows_in.nd rfl (by first | exact Or.inl rfl | exact Or.inr rfl)) (pss_one (ps_if (pt_cmpR op_eq (pv 2) (pe_gi T.i_LINE_END) (nomark _)) (pss_one (ps_expr (pe_bm PySem.F.plainAttrs_list PySem.F.slot_list_append PySem.F.type_list_append mt_append (pv 1) (pa_cons (pe_lst pa_nil) pa_nil)))) (pss_one (ps_expr (pe_bm PySem.F.plainAttrs_list PySem.F.slot_list_append PySem.F.type_list_append mt_append (pe_ix ix_list (pv 1) (pe_un un_neg pe_int) (fun _ _ => rfl)) (pa_cons (pv 2) pa_nil)))))))
      (pss_cons (ps_if (pt_cmpR (op_eqD hr.units) (pe_ix ix_list (pv 1) (pe_un un_neg pe_int) (fun _ _ => rfl)) (pe_lst pa_nil) (nomark _)) (pss_one (ps_ret (pe_slice sl_list (pv 1) po_none (po_some (pe_un un_neg pe_int))))) pss_nil)
      (pss_one (ps_ret (pv 1)))))), ?_⟩)
  obtain ⟨a, l, rfl, hl, hz, k⟩ := h
  refine ⟨(by show 0 ≤ sizeLine; decide), fun r0 hr0 => ⟨(by show 1 ≤ sizeLine; decide), fun fd hfd => ?_⟩⟩
  have n0 : r0 ≠ fd := ne_of_none upd_same hfd
  have hfd' : H fd = none := by rw [upd_ne (Ne.symm n0)] at hfd; exact hfd
  refine ⟨_, rfl, a, rfl, ⟨_, sq_same (same_up (same_new hr0) hfd') hl⟩, for_list (K := K) (a := a) (xs := vi l)
    (fun i σ H' => ∃ o as z, σ = [some (.ref a), some (.ref fd), o] ∧ Same H H' ∧ H fd = none ∧ H' fd = some (.lst (vr (as ++ [z]))) ∧ RowsL H' as (rowsRun (l.take i)).1 ∧ H' z = some (.lst (vi (rowsRun (l.take i)).2)) ∧ z ∉ as ∧ z ≠ fd ∧ fd ∉ as ∧ H z = none)
    ⟨none, [], r0, rfl, same_up (same_new hr0) hfd', hfd', upd_same, .nil, by rw [upd_ne n0]; exact upd_same, by simp, n0, by simp, hr0⟩ (fun i σ H' _ ⟨_, _, _, _, e, _⟩ => sq_same e hl) ?_ ?_⟩
  · rintro i x σ H1 hx ⟨o, as, z, rfl, s1, h0, h1, hL, hzr, nz, nzf, nf, hz0⟩
    obtain ⟨b, hb, rfl⟩ := vi_of hx
    have hi : i < 400 := by have := (List.getElem?_eq_some_iff.mp hb).1; omega
    have bd := rowsRun_le l i
    have eR : rowsRun (l.take (i + 1)) = rowsStep (rowsRun (l.take i)) b := by
      unfold rowsRun
      rw [take_snoc hb, List.foldl_append]; rfl
    have ln := hL.len
    refine ⟨_, rfl, rfl, _, rfl, ?_⟩
    refine if_e (m := 10) (fun c => ?_) fun c => ?_
    · refine ⟨_, rfl, .inl ⟨rfl, _, SqL.of h1⟩, (by show 0 ≤ sizeLine; decide), fun q hq => ⟨fd, _, _, rfl, rfl, same_new hq _ _ h1, small1000 (by rw [vr_len, List.length_append, ln]; show _ + 1 ≤ _; omega), ?_⟩⟩
      have nqf : q ≠ fd := Ne.symm (ne_of_none h1 hq)
      have nqz : q ≠ z := Ne.symm (ne_of_none hzr hq)
      have hq0 : H q = none := by
        cases w : H q with
        | none => rfl
        | some u => rw [s1 _ _ w] at hq; cases hq
      refine ⟨_, as ++ [z], q, rfl, ?_, h0, ?_, ?_, ?_, ?_, nqf, ?_, hq0⟩
      · intro y u w
        rw [upd_ne (ne_of_none w h0), upd_ne (ne_of_none (s1 _ _ w) hq)]
        exact s1 _ _ w
      · rw [upd_same, vr_app (as ++ [z])]; rfl
      · rw [eR, rowsStep, if_pos c]
        refine RowsL.snoc (hL.mono fun y u m w => ?_) ?_
        · rw [upd_ne (fun e => nf (by rw [← e]; exact m)), upd_ne (ne_of_none w hq)]; exact w
        · rw [upd_ne nzf, upd_ne (Ne.symm nqz)]; exact hzr
      · rw [eR, rowsStep, if_pos c, upd_ne nqf]; exact upd_same
      · intro m
        rcases List.mem_append.mp m with m | m
        · obtain ⟨u, hu⟩ := hL.mem m
          rw [hu] at hq; cases hq
        · exact nqz (List.mem_singleton.mp m)
      · intro m
        rcases List.mem_append.mp m with m | m
        · exact nf m
        · exact nzf (List.mem_singleton.mp m).symm
    · have e1 : atI (vr (as ++ [z])) (-1) = some (.ref z) := by rw [vr_app]; exact atI_last _ _
      refine ⟨_, rfl, _, rfl, _, _, _, _, rfl, rfl, SqL.of h1, e1, .inl ⟨rfl, _, SqL.of hzr⟩, _, rfl, z, _, _, rfl, rfl, hzr, small1000 (by rw [vi_len]; omega), ?_⟩
      refine ⟨_, as, z, rfl, ?_, h0, ?_, ?_, ?_, nz, nzf, nf, hz0⟩
      · intro y u w
        rw [upd_ne (ne_of_none w hz0)]
        exact s1 _ _ w
      · rw [upd_ne (Ne.symm nzf)]; exact h1
      · rw [eR, rowsStep, if_neg c]
        exact hL.mono fun y u m w => by rw [upd_ne (fun e => nz (by rw [← e]; exact m))]; exact w
      · rw [eR, rowsStep, if_neg c, upd_same, vi_app]; rfl
  · rintro σ H1 ⟨o, as, z, rfl, s1, h0, h1, hL, hzr, nz, nzf, nf, hz0⟩
    rw [vi_len, List.take_length] at hL hzr
    have e1 : atI (vr (as ++ [z])) (-1) = some (.ref z) := by rw [vr_app]; exact atI_last _ _
    refine ⟨_, rfl, _, rfl, _, _, _, _, rfl, rfl, SqL.of h1, e1, (by show 0 ≤ sizeLine; decide), fun q hq => ⟨dI (rowsRun l).2, dI [], dp_dI (SqL.of (same_new hq _ _ hzr)), dp_dI (SqL.of upd_same), shaped_dI _, shaped_dI _, _, rfl, ?_⟩⟩
    have s2 := same_new (o := .lst []) hq
    rw [eqv_dI]
    refine if_d (fun c => ?_) fun c => ?_
    · refine ⟨_, rfl, _, rfl, _, rfl, _, _, rfl, SqL.of (s2 _ _ h1), fun p hp => ?_⟩
      have ec : cutV (vr (as ++ [z])) none (some (-1)) = vr as := by
        unfold cutV
        rw [HT.sIx_none, vr_len, List.length_append, vr_app]
        have : HT.sIx (as.length + [z].length) (as.length + [z].length) (some (-1)) = as.length := by
          unfold HT.sIx
          dsimp only
          rw [if_pos (by decide)]
          show ((-1 : Int) + ((as.length + 1 : Nat) : Int)).toNat = _
          omega
        rw [this, List.drop_zero, Nat.sub_zero, ← vr_len as, List.take_left]
      rw [ec]
      have s3 := same_new (o := .lst (vr as)) hp
      refine k _ p (fun b u w => s3 _ _ (s2 _ _ (s1 _ _ w))) ?_ ⟨as, upd_same, ?_⟩
      · cases w : H p with
        | none => rfl
        | some u => rw [s2 _ _ (s1 _ _ w)] at hp; cases hp
      · rw [rowsM, if_pos c]
        exact hL.mono fun a o _ w => s3 _ _ (s2 _ _ w)
    · refine ⟨_, rfl, k _ fd (fun b u w => s2 _ _ (s1 _ _ w)) h0 ⟨as ++ [z], s2 _ _ h1, ?_⟩⟩
      rw [rowsM, if_neg c]
      exact (hL.mono fun a o _ w => s2 _ _ w).snoc (s2 _ _ hzr)
end
end SC
/-! SC9: caves: faults, a text's cave, the first cave. -/
namespace SC
open PySem PySem.Spec PyProof.Rows L2
def okB (b : Nat) : Bool := sgnL.contains b || b == 10
def faultM (l : List Nat) : Nat :=
  let rs := rowsM l
  if l.all okB = false then 1 else
  if rs ≠ [] ∧ (rs.all fun r => r.length == (rs.headD []).length) = false then 2 else
  if rs = [] ∨ rs.headD [] = [] ∨ 14 < rs.length ∨ 20 < (rs.headD []).length then 3 else
  if l.count 64 ≠ 1 then 4 else 0
def idxM (b : Nat) : Nat := sgnL.findIdx fun s => s == b
def caveM (l : List Nat) : CM := ⟨((rowsM l).headD []).length, (rowsM l).length, (l.filter fun b => !(b == 10)).map idxM, 0, 0⟩
def spFault (K : PySem.W.Frag) : Sp := fun vs H Q _ => ∃ (a : Addr) (l : List Nat), vs = [.ref a] ∧ SqL K H a (vi l) ∧ l.length ≤ 400 ∧ ∀ H', Same H H' → Q (.int (faultM l)) H'
def spCaveOf (A : Ad) (K : PySem.W.Frag) : Sp := fun vs H Q _ => ∃ (a : Addr) (l : List Nat), vs = [.ref a] ∧ SqL K H a (vi l) ∧ l.length ≤ 400 ∧ faultM l = 0 ∧ ∀ H' p, CaveNew A H H' p (caveM l) → Q (.ref p) H'
def cave0M : CM := ⟨3, 3, [2, 2, 2, 2, 7, 2, 2, 2, 2], 0, 0⟩
def spFirst (A : Ad) : Sp := fun vs H Q _ => vs = [] ∧ ∀ H' p, CaveNew A H H' p cave0M → Q (.ref p) H'
theorem RowsL.get {H : Hp} {as : List Addr} {rs : List (List Nat)} (h : RowsL H as rs) : ∀ {i : Nat} {a : Addr}, as[i]? = some a → ∃ r, rs[i]? = some r ∧ H a = some (.lst (vi r)) := by
  induction h with
  | nil => intro i a e; simp at e
  | cons r t ih =>
    intro i a e
    cases i with
    | zero =>
      have e : _ = a := Option.some.inj e
      subst e
      exact ⟨_, rfl, r⟩
    | succ i => exact ih (i := i) e
theorem vr_of {l : List Addr} {i : Nat} {x : V} (h : (vr l)[i]? = some x) : ∃ a, l[i]? = some a ∧ x = .ref a := by
  unfold vr at h
  rw [List.getElem?_map] at h
  cases e : l[i]? with
  | none => rw [e] at h; cases h
  | some n => rw [e] at h; exact ⟨n, rfl, (Option.some.inj h).symm⟩
theorem vr_get {l : List Addr} {i : Nat} {a : Addr} (h : l[i]? = some a) : (vr l)[i]? = some (.ref a) := by unfold vr; rw [List.getElem?_map, h]; rfl
theorem vb_app (a b : List Bool) : vb (a ++ b) = vb a ++ vb b := by unfold vb; rw [List.map_append]
theorem vint_dec (a b : Nat) : decide (V.int (a : Int) = V.int (b : Int)) = decide (a = b) := by
  rw [decide_eq_decide]
  constructor
  · intro h; injection h with h; omega
  · intro h; rw [h]
theorem dataRows {K : PySem.W.Frag} {H : Hp} {as : List Addr} {rs : List (List Nat)} (h : RowsL H as rs) : DpAll K H (vr as) (rs.map dI) := by
  induction h with
  | nil => exact .nil
  | cons r t ih => exact .cons (dp_dI (SqL.of r)) ih
theorem lay_rows : ∀ rs : List (List Nat), PyData.canLayAll0 (rs.map dI) = true
  | [] => rfl
  | r :: rs => by
    show (PyData.canLay0 (dI r) && PyData.canLayAll0 (rs.map dI)) = true
    rw [lay_dI, lay_rows rs]; rfl
theorem dep_rows : ∀ rs : List (List Nat), PyData.depthAll (rs.map dI) ≤ 2
  | [] => by simp [PyData.depthAll]
  | r :: rs => by
    rw [List.map_cons, PyData.depthAll]
    exact Nat.max_le.mpr ⟨dep_dI r, dep_rows rs⟩
theorem shaped_rows (rs : List (List Nat)) : SeqAt.shaped (.list (rs.map dI)) = true := by
  unfold SeqAt.shaped
  have e1 : PyData.canLay0 (.list (rs.map dI)) = true := lay_rows rs
  have e2 : PyData.depth (.list (rs.map dI)) ≤ 64 := by
    rw [PyData.depth]
    have := dep_rows rs
    omega
  rw [e1, decide_eq_true e2]; rfl
theorem eqv_rows (rs : List (List Nat)) : PyData.eqv (.list (rs.map dI)) (.list []) = decide (rs = []) := by
  cases rs with
  | nil => simp [PyData.eqv, PyData.eqvAll]
  | cons r rs => simp [PyData.eqv, PyData.eqvAll]
theorem head_get {rs : List (List Nat)} (h : rs ≠ []) : rs[0]? = some (rs.headD []) := by
  cases rs with
  | nil => exact absurd rfl h
  | cons r rs => rfl
section
variable {P : Program} {w : World} {K : PySem.W.Frag} {mg : Str → Option Value} {base : Heap} {A : Ad}
theorem sc_fault_of : FnScope ["row", "rows", "byte", "one"] ["row"] (defScope (topS 19)) := ⟨rfl, rfl, rfl, by decide +kernel, rfl, by decide +kernel, by decide +kernel⟩
theorem sc_cave_of : FnScope ["row", "rows", "cells", "byte"] ["row"] (defScope (topS 20)) := ⟨rfl, rfl, rfl, by decide +kernel, rfl, by decide +kernel, by decide +kernel⟩
theorem sc_first_cave : FnScope [] [] (defScope (topS 21)) := ⟨rfl, rfl, rfl, by decide +kernel, rfl, by decide +kernel, by decide +kernel⟩
theorem g_fault_of (T : Txt K mg A) : CallOk P w K mg base CX0 2 "fault_of" ["row"] (spFault K) := by
  refine T.d_fault_of.ok (N := ["row", "rows", "byte", "one"]) sc_fault_of (fun vs H Q E h => (by first | (obtain ⟨rfl, _⟩ := h; rfl) | (obtain ⟨_, rfl, _⟩ := h; rfl) | (obtain ⟨_, _, rfl, _⟩ := h; rfl) | (obtain ⟨_, _, _, rfl, _⟩ := h; rfl) | (obtain ⟨_, _, _, _, rfl, _⟩ := h; rfl) | (obtain ⟨_, _, _, _, _, rfl, _⟩ := h; rfl) | (obtain ⟨_, _, _, _, _, _, rfl, _⟩ := h; rfl) | (obtain ⟨_, _, _, _, _, _, _, rfl, _⟩ := h; rfl) | (obtain ⟨_, _, _, _, _, _, _, _, rfl, _⟩ := h; rfl) | (obtain ⟨_, _, _, _, _, _, _, _, _, rfl, _⟩ := h; rfl) | (obtain ⟨_, _, _, _, _, _, _, _, _, _, rfl, _⟩ := h; rfl) | (obtain ⟨_, _, _, _, _, _, _, _, _, _, _, rfl, _⟩ := h; rfl) | (obtain ⟨_, _, _, _, _, _, _, _, _, _, _, _, rfl, _⟩ := h; rfl) | (obtain ⟨_, _, _, _, _, _, _, _, _, _, _, _, _, rfl, _⟩ := h; rfl) | (obtain ⟨rfl⟩ := h; rfl) | (obtain ⟨_, rfl⟩ := h; rfl) | (obtain ⟨_, _, rfl⟩ := h; rfl) | (obtain ⟨_, _, _, rfl⟩ := h; rfl) | (obtain ⟨_, _, _, _, rfl⟩ := h; rfl) | (obtain ⟨_, _, _, _, _, rfl⟩ := h; rfl) | (obtain ⟨_, _, _, _, _, _, rfl⟩ := h; rfl) | (obtain ⟨_, _, _, _, _, _, _, rfl⟩ := h; rfl) | (obtain ⟨_, _, _, _, _, _, _, _, rfl⟩ := h; rfl) | (obtain ⟨_, _, _, _, _, _, _, _, _, rfl⟩ := h; rfl) | (obtain ⟨_, _, _, _, _, _, _, _, _, _, rfl⟩ := h; rfl) | (obtain ⟨_, _, _, _, _, _, _, _, _, _, _, rfl⟩ := h; rfl) | (obtain ⟨_, _, _, _, _, _, _, _, _, _, _, _, rfl⟩ := h; rfl) | (obtain ⟨_, _, _, _, _, _, _, _, _, _, _, _, _, rfl⟩ := h; rfl))) (fun _ _ _ _ _ _ us hl => match us, hl with | [_], _ => rfl) (fun f cdv A0 outer s H vs Q E hr h => ⟨_, (pss_cons (ps_set (i := 1) sc_fault_of.nd rfl (by first | exact Or.inl rfl | exact Or.inr rfl) (pe_cal (g_rows_in T) (hr.mono (by decide)) pass0 (pa_cons (pv 0) pa_nil)))
      (pss_cons (ps_if (pt_not (pt_val (pe_callB (cr_all rfl) (by rfl) T.b_all (by decide +kernel) (pa_cons (pe_lc (own := [("byte", 2)]) (g := gName 2) (by rfl) sc_fault_of.nd (pi_list (pv 0)) (blkOk_by (own := [("byte", 2)]) (N := ["row", "rows", "byte", "one"]) (sc := defScope (topS 19)) (by decide +kernel)) (fun _ _ _ _ _ => pg_name (i := 2) sc_fault_of.nd rfl (Or.inl rfl)) (fun _ _ _ _ _ => pts_nil) (fun _ _ _ _ _ => (pe_or (pe_cmpR (op_inK (K := K)) (pv 2) (pe_gr T.g_BYTES) (by rfl)) (pe_one (pe_cmpR op_eq (pv 2) (pe_gi T.i_LINE_END) (nomark _)))))) pa_nil)))) (pss_one (ps_ret pe_int)) pss_nil)
      (pss_cons (ps_if (PW.pt (pw_and (pt_cmpR (op_neD hr.units) (pv 1) (pe_lst pa_nil) (nomark _)) (pw_and1 (pt_not (pt_val (pe_callB (cr_all rfl) (by rfl) T.b_all (by decide +kernel) (pa_cons (pe_lc (own := [("one", 3)]) (g := gName 3) (by rfl) sc_fault_of.nd (pi_list (pv 1)) (blkOk_by (own := [("one", 3)]) (N := ["row", "rows", "byte", "one"]) (sc := defScope (topS 19)) (by decide +kernel)) (fun _ _ _ _ _ => pg_name (i := 3) sc_fault_of.nd rfl (Or.inl rfl)) (fun _ _ _ _ _ => pts_nil) (fun _ _ _ _ _ => (pe_cmpR op_eq (pe_callB (call_lenK (K := K)) (by rfl) T.b_len PySem.boot_len (pa_cons (pv 3) pa_nil)) (pe_callB (call_lenK (K := K)) (by rfl) T.b_len PySem.boot_len (pa_cons (pe_ix (ix_listK (K := K)) (pv 1) pe_int (fun _ _ => rfl)) pa_nil)) (nomark _)))) pa_nil))))))) (pss_one (ps_ret pe_int)) pss_nil)
      (pss_cons (ps_if (PW.pt (pw_or (pt_cmpR (op_eqD hr.units) (pv 1) (pe_lst pa_nil) (nomark _)) (pw_or (pt_cmpR (op_eqD hr.units) (pe_ix ix_list (pv 1) pe_int (fun _ _ => rfl)) (pe_lst pa_nil) (nomark _)) (pw_or (pt_cmpR op_gt (pe_callB call_len_seq (by rfl) T.b_len PySem.boot_len (pa_cons (pv 1) pa_nil)) (pe_gi T.i_MOST_HIGH) (nomark _)) (pw_or1 (pt_cmpR op_gt (pe_callB call_len_seq (by rfl) T.b_len PySem.boot_len (pa_cons (pe_ix ix_list (pv 1) pe_int (fun _ _ => rfl)) pa_nil)) (pe_gi T.i_MOST_WIDE) (nomark _))))))) (pss_one (ps_ret pe_int)) pss_nil)
      (pss_cons (ps_if (pt_cmpR op_ne (pe_bm PySem.F.plainAttrs_list PySem.F.slot_list_count PySem.F.type_list_count mt_lcount (pv 0) (pa_cons (pe_ix ix_tup (pe_gr T.g_BYTES) (pe_gi T.i_PLAYER) (fun _ _ => rfl)) pa_nil)) pe_int (nomark _)) (pss_one (ps_ret pe_int)) pss_nil)
      (pss_one (ps_ret pe_int))))))), ?_⟩)
  obtain ⟨a, l, rfl, hl, hz, k⟩ := h
  have hk : ∀ {H'}, Same H H' → Q (.int (faultM l)) H' := fun {H'} => k H'
  clear k
  unfold faultM at hk
  dsimp only at hk
  refine ⟨_, rfl, a, l, rfl, hl, hz, fun H1 p s1 hp ⟨as, hpa, hL⟩ => ?_⟩
  have hlen : (rowsM l).length ≤ 401 := by
    have := rowsRun_le l l.length
    rw [List.take_length] at this
    unfold rowsM
    split
    · omega
    · rw [List.length_append]; show _ + 1 ≤ _; omega
  generalize hrs : rowsM l = rs at hk hL hlen
  have ln := hL.len
  -- every byte is a sign or ends a row
  refine ⟨_, rfl, a, rfl, ⟨_, sq_same s1 hl⟩, fun D hD => lc_list (K := K) (a := a) (xs := vi l) (fun i H' => H' = upd H1 D (.lst (vb ((l.take i).map okB)))) rfl (fun i H' _ e => by rw [e]; exact sq_same (same_new hD) (sq_same s1 hl)) ?_ ?_⟩
  · rintro i x H' hx rfl
    obtain ⟨b, hb, rfl⟩ := vi_of hx
    have hi : i < 400 := by have := (List.getElem?_eq_some_iff.mp hb).1; omega
    have fin : ∀ y, y = V.bl (okB b) → ∃ acc, upd H1 D (.lst (vb ((l.take i).map okB))) D = some (.lst acc) ∧ acc.length < sizeLine ∧ upd (upd H1 D (.lst (vb ((l.take i).map okB)))) D (.lst (acc ++ [y])) = upd H1 D (.lst (vb ((l.take (i + 1)).map okB))) := fun y ey => by
      refine ⟨_, upd_same, small1000 (by rw [vb_len, List.length_map, List.length_take]; omega), ?_⟩
      rw [upd_upd, take_snoc hb, List.map_append, vb_app, ey]; rfl
    refine ⟨rfl, ?_⟩
    refine ⟨_, rfl, _, _, rfl, .inr T.t_BYTES.sq, rfl, rfl, _, rfl, ?_⟩
    have ei : (if false = true then !inV (.int (b : Int)) (vi sgnL) else inV (.int (b : Int)) (vi sgnL)) = sgnL.contains b := inV_vi sgnL b
    refine if_b (fun c => ?_) fun c => ?_
    · exact fin _ (congrArg V.bl (by rw [okB, ← ei, show (if false = true then !inV (.int (b : Int)) (vi sgnL) else inV (.int (b : Int)) (vi sgnL)) = true from c]; rfl))
    · refine ⟨_, rfl, rfl, ?_⟩
      refine fin _ (congrArg V.bl ?_)
      rw [okB, ← ei, show (if false = true then !inV (.int (b : Int)) (vi sgnL) else inV (.int (b : Int)) (vi sgnL)) = false from c]
      refine (vint_dec b 10).trans ?_
      rw [Bool.eq_iff_iff, decide_eq_true_eq, Bool.false_or, beq_iff_eq]
  rintro H2 rfl
  rw [vi_len, List.take_length]
  have s2 := same_new (o := .lst (vb (l.map okB))) hD
  refine ⟨_, l.map okB, rfl, SqL.of upd_same, _, rfl, ?_⟩
  have ea : (l.map okB).all id = l.all okB := by rw [List.all_map]; rfl
  rw [ea]
  generalize hH2 : upd H1 D (.lst (vb (l.map okB))) = H2 at s2
  cases c1 : l.all okB with
  | false =>
    rw [if_pos c1] at hk
    refine if_y rfl ?_
    exact hk fun b o q => s2 _ _ (s1 _ _ q)
  | true =>
  rw [if_neg (by rw [c1]; decide)] at hk
  refine if_n rfl ?_
  have hp2 := s2 _ _ hpa
  have hL2 := hL.mono fun y o _ w => s2 _ _ w
  have sH2 : Same H H2 := fun b o q => s2 _ _ (s1 _ _ q)
  clear hH2
  -- what follows the second test
  have third : ¬ (rs ≠ [] ∧ (rs.all fun r => r.length == (rs.headD []).length) = false) → ∀ H3, Same H2 H3 → ∀ (D : Ends), D.rt = Q → D.nx = (fun _ H' => Q .non H') → ∀ σ : L2.St, σ[0]? = some (some (.ref a)) → σ[1]? = some (some (.ref p)) → σ.length = 4 →
      tSeq (tIfS (tOr (tTest (tOp (rEqD K) (tVar 1) (tLst tNil))) (tOr (tTest (tOp (rEqD K) (tOp (rIxL K) (tVar 1) (tC (.int 0))) (tLst tNil))) (tOr (tTest (tOp (rI0 fun i j => .bl (decide (j < i))) (tCB (rLenK K) (tCons (tVar 1) tNil)) (tC (.int 14)))) (tTest (tOp (rI0 fun i j => .bl (decide (j < i))) (tCB (rLenK K) (tCons (tOp (rIxL K) (tVar 1) (tC (.int 0))) tNil)) (tC (.int 20))))))) (tRet (tC (.int 3))) tNext)
        (tSeq (tIfS (tTest (tOp rNe (tBM K "list" (rCntI K) (tVar 0) (tCons (tOp (rIxT K) (tC (.ref A.bytes)) (tC (.int 7))) tNil)) (tC (.int 1)))) (tRet (tC (.int 4))) tNext) (tRet (tC (.int 0)))) D σ H3 := fun n2 H3 s3 D hrt hnx σ h0 h1 hσ => by
    rw [if_neg n2] at hk
    have hp3 := s3 _ _ hp2
    have hL3 := hL2.mono fun y o _ w => s3 _ _ w
    have sH3 : Same H H3 := fun b o q => s3 _ _ (sH2 _ _ q)
    have bad : (rs = [] ∨ rs.headD [] = [] ∨ 14 < rs.length ∨ 20 < (rs.headD []).length) → ∀ {H'}, Same H3 H' → D.rt (.int 3) H' := fun c H' e => by
      rw [if_pos c] at hk
      rw [hrt]
      exact hk fun b o q => e _ _ (sH3 _ _ q)
    refine ⟨_, h1, (by show 0 ≤ sizeLine; decide), fun q hq => ⟨.list (rs.map dI), .list [], .lst (SqL.of (same_new hq _ _ hp3)) (dataRows (hL3.mono fun y o _ w => same_new hq _ _ w)), .lst (SqL.of upd_same) .nil, shaped_rows rs, shaped_dI [], _, rfl, ?_⟩⟩
    have s4 := same_new (o := .lst []) hq
    rw [eqv_rows]
    refine if_d (fun c2 => bad (.inl c2) s4) fun c2 => ?_
    have h0g := head_get c2
    obtain ⟨a0, ha0⟩ : ∃ a0, as[0]? = some a0 := by
      cases as with
      | nil => rw [List.length_nil] at ln; exact absurd (List.length_eq_zero_iff.mp ln.symm) c2
      | cons x _ => exact ⟨x, rfl⟩
    have hr0 : ∀ {H'}, Same H3 H' → H' a0 = some (.lst (vi (rs.headD []))) := fun {H'} e => by
      obtain ⟨r, e1, e2⟩ := (hL3.mono fun y o _ w => e _ _ w).get ha0
      rw [h0g] at e1
      rw [Option.some.inj e1]
      exact e2
    generalize hH4 : upd H3 q (.lst []) = H4 at s4
    refine ⟨_, h1, _, _, _, _, rfl, rfl, SqL.of (s4 _ _ hp3), at_ix (j := 0) rfl (vr_get ha0), (by show 0 ≤ sizeLine; decide), fun q2 hq2 => ⟨dI (rs.headD []), dI [], dp_dI (SqL.of (same_new hq2 _ _ (hr0 s4))), dp_dI (SqL.of upd_same), shaped_dI _, shaped_dI _, _, rfl, ?_⟩⟩
    have s5 := same_new (o := .lst []) hq2
    rw [eqv_dI]
    have s35 : Same H3 (upd H4 q2 (.lst [])) := fun b o w => s5 _ _ (s4 _ _ w)
    generalize hH5 : upd H4 q2 (.lst []) = H5 at s35
    refine if_d (fun c3 => bad (.inr (.inl c3)) s35) fun c3 => ?_
    refine ⟨_, h1, _, _, rfl, .inl (SqL.of (s35 _ _ hp3)), _, _, rfl, rfl, _, rfl, ?_⟩
    rw [vr_len, ln]
    refine if_d (fun c4 => bad (.inr (.inr (.inl (by omega)))) s35) fun c4 => ?_
    refine ⟨_, h1, _, _, _, _, rfl, rfl, SqL.of (s35 _ _ hp3), at_ix (j := 0) rfl (vr_get ha0), _, _, rfl, .inl (SqL.of (hr0 s35)), _, _, rfl, rfl, _, rfl, ?_⟩
    rw [vi_len]
    refine if_d (fun c5 => bad (.inr (.inr (.inr (by omega)))) s35) fun c5 => ?_
    rw [if_neg (show ¬ (rs = [] ∨ rs.headD [] = [] ∨ 14 < rs.length ∨ 20 < (rs.headD []).length) from fun z => by
      rcases z with z | z | z | z
      · exact c2 z
      · exact c3 z
      · exact c4 (by omega)
      · exact c5 (by omega))] at hk
    have hrow : SqL K H5 a (vi l) := sq_same s35 (sq_same sH3 hl)
    refine ⟨_, h0, .inl ⟨rfl, _, hrow⟩, _, _, _, _, rfl, rfl, T.t_BYTES.sq, at_ix (j := 7) rfl rfl, ?_⟩
    rw [vi_ints] at hrow
    refine ⟨_, _, _, rfl, rfl, hrow, rfl, _, rfl, ?_⟩
    have ec : (((l.map fun n : Nat => (n : Int)).count 64 : Nat) : Int) = ((l.count 64 : Nat) : Int) := by rw [show (64 : Int) = ((64 : Nat) : Int) from rfl, count_ints]
    rw [ec]
    have en : (!decide (V.int ((l.count 64 : Nat) : Int) = V.int ((1 : Nat) : Int))) = decide (l.count 64 ≠ 1) := by rw [vint_dec, Bool.eq_iff_iff]; simp
    show if (!decide (V.int ((l.count 64 : Nat) : Int) = V.int ((1 : Nat) : Int))) = true then _ else _
    rw [en]
    refine if_d (fun c6 => ?_) fun c6 => ?_
    · rw [if_pos c6] at hk
      show D.rt (.int 4) H5
      rw [hrt]
      exact hk fun b o q => s35 _ _ (sH3 _ _ q)
    · rw [if_neg c6] at hk
      show D.rt (.int 0) H5
      rw [hrt]
      exact hk fun b o q => s35 _ _ (sH3 _ _ q)
  refine ⟨_, rfl, (by show 0 ≤ sizeLine; decide), fun q hq => ⟨.list (rs.map dI), .list [], .lst (SqL.of (same_new hq _ _ hp2)) (dataRows (hL2.mono fun y o _ w => same_new hq _ _ w)), .lst (SqL.of upd_same) .nil, shaped_rows rs, shaped_dI [], _, rfl, ?_⟩⟩
  have s3 := same_new (o := .lst []) hq
  rw [eqv_rows]
  generalize hH3 : upd H2 q (.lst []) = H3 at s3
  by_cases c2 : rs = []
  · refine if_n (by rw [decide_eq_true c2]; rfl) ?_
    refine if_n rfl ?_
    exact third (fun z => z.1 c2) H3 s3 _ rfl rfl _ rfl rfl rfl
  refine if_y (by rw [decide_eq_false c2]; rfl) ?_
  have h0g := head_get c2
  obtain ⟨a0, ha0⟩ : ∃ a0, as[0]? = some a0 := by
    cases as with
    | nil => rw [List.length_nil] at ln; exact absurd (List.length_eq_zero_iff.mp ln.symm) c2
    | cons x _ => exact ⟨x, rfl⟩
  have hp3 := s3 _ _ hp2
  have hL3 := hL2.mono fun y o _ w => s3 _ _ w
  refine ⟨_, rfl, p, rfl, ⟨_, SqL.of hp3⟩, fun D hD => lc_list (K := K) (a := p) (xs := vr as) (fun i H' => H' = upd H3 D (.lst (vb ((rs.take i).map fun r => r.length == (rs.headD []).length)))) rfl (fun i H' _ e => by rw [e]; exact SqL.of (same_new hD _ _ hp3)) ?_ ?_⟩
  · rintro i x H' hx rfl
    obtain ⟨b, hb, rfl⟩ := vr_of hx
    have s4 := same_new (o := .lst (vb ((rs.take i).map fun r => r.length == (rs.headD []).length))) hD
    obtain ⟨r, hr1, hr2⟩ := (hL3.mono fun y o _ w => s4 _ _ w).get hb
    obtain ⟨r0, hr3, hr4⟩ := (hL3.mono fun y o _ w => s4 _ _ w).get ha0
    rw [h0g] at hr3
    have er := Option.some.inj hr3
    have hi : i < rs.length := (List.getElem?_eq_some_iff.mp hr1).1
    refine ⟨rfl, ?_⟩
    refine ⟨_, rfl, _, _, rfl, .inl (SqL.of hr2), _, rfl, _, _, _, _, rfl, rfl, SqL.of (s4 _ _ hp3), at_ix (j := 0) rfl (vr_get ha0), _, _, rfl, .inl (SqL.of hr4), rfl, _, upd_same, small1000 (by rw [vb_len, List.length_map, List.length_take]; omega), ?_⟩
    show upd _ _ _ = _
    rw [upd_upd, take_snoc hr1, List.map_append, vb_app, vi_len, vi_len, vint_dec, er]
    have eb : decide (r.length = r0.length) = (r.length == r0.length) := by rw [Bool.eq_iff_iff, decide_eq_true_eq, beq_iff_eq]
    rw [eb]
    rfl
  · rintro H' rfl
    rw [vr_len, ln, List.take_length]
    refine ⟨_, rs.map fun r => r.length == (rs.headD []).length, rfl, SqL.of upd_same, _, rfl, ?_⟩
    have s4 := same_new (o := .lst (vb (rs.map fun r => r.length == (rs.headD []).length))) hD
    have s24 : Same H2 (upd H3 D (.lst (vb (rs.map fun r => r.length == (rs.headD []).length)))) := fun b o w => s4 _ _ (s3 _ _ w)
    have ea2 : (rs.map fun r => r.length == (rs.headD []).length).all id = rs.all fun r => r.length == (rs.headD []).length := by rw [List.all_map]; rfl
    rw [ea2]
    cases c3 : rs.all fun r => r.length == (rs.headD []).length with
    | false =>
      refine if_y rfl ?_
      rw [if_pos ⟨c2, c3⟩] at hk
      exact hk fun b o w => s24 _ _ (sH2 _ _ w)
    | true =>
      refine if_n rfl ?_
      exact third (fun z => by rw [c3] at z; exact absurd z.2 (by decide)) _ s24 _ rfl rfl _ rfl rfl rfl
theorem idx_get {b : Nat} (h : sgnL.contains b = true) : sgnL[idxM b]? = some b ∧ (∀ m, m < idxM b → sgnL[m]? ≠ some b) := by
  have hm : b ∈ sgnL := by simpa using h
  have hl : idxM b < sgnL.length := by
    unfold idxM
    exact List.findIdx_lt_length_of_exists ⟨b, hm, by simp⟩
  have e := List.findIdx_getElem (p := fun s => s == b) (w := hl)
  refine ⟨?_, fun m hmi z => ?_⟩
  · rw [List.getElem?_eq_getElem hl]
    exact congrArg some (beq_iff_eq.mp e)
  · have := List.not_of_lt_findIdx (p := fun s => s == b) hmi
    have hml : m < sgnL.length := Nat.lt_trans hmi hl
    rw [List.getElem?_eq_getElem hml] at z
    simp only [Option.some.injEq] at z
    rw [z] at this
    simp at this
theorem g_cave_of (T : Txt K mg A) : CallOk P w K mg base CX0 3 "cave_of" ["row"] (spCaveOf A K) := by
  refine T.d_cave_of.ok (N := ["row", "rows", "cells", "byte"]) sc_cave_of (fun vs H Q E h => (by first | (obtain ⟨rfl, _⟩ := h; rfl) | (obtain ⟨_, rfl, _⟩ := h; rfl) | (obtain ⟨_, _, rfl, _⟩ := h; rfl) | (obtain ⟨_, _, _, rfl, _⟩ := h; rfl) | (obtain ⟨_, _, _, _, rfl, _⟩ := h; rfl) | (obtain ⟨_, _, _, _, _, rfl, _⟩ := h; rfl) | (obtain ⟨_, _, _, _, _, _, rfl, _⟩ := h; rfl) | (obtain ⟨_, _, _, _, _, _, _, rfl, _⟩ := h; rfl) | (obtain ⟨_, _, _, _, _, _, _, _, rfl, _⟩ := h; rfl) | (obtain ⟨_, _, _, _, _, _, _, _, _, rfl, _⟩ := h; rfl) | (obtain ⟨_, _, _, _, _, _, _, _, _, _, rfl, _⟩ := h; rfl) | (obtain ⟨_, _, _, _, _, _, _, _, _, _, _, rfl, _⟩ := h; rfl) | (obtain ⟨_, _, _, _, _, _, _, _, _, _, _, _, rfl, _⟩ := h; rfl) | (obtain ⟨_, _, _, _, _, _, _, _, _, _, _, _, _, rfl, _⟩ := h; rfl) | (obtain ⟨rfl⟩ := h; rfl) | (obtain ⟨_, rfl⟩ := h; rfl) | (obtain ⟨_, _, rfl⟩ := h; rfl) | (obtain ⟨_, _, _, rfl⟩ := h; rfl) | (obtain ⟨_, _, _, _, rfl⟩ := h; rfl) | (obtain ⟨_, _, _, _, _, rfl⟩ := h; rfl) | (obtain ⟨_, _, _, _, _, _, rfl⟩ := h; rfl) | (obtain ⟨_, _, _, _, _, _, _, rfl⟩ := h; rfl) | (obtain ⟨_, _, _, _, _, _, _, _, rfl⟩ := h; rfl) | (obtain ⟨_, _, _, _, _, _, _, _, _, rfl⟩ := h; rfl) | (obtain ⟨_, _, _, _, _, _, _, _, _, _, rfl⟩ := h; rfl) | (obtain ⟨_, _, _, _, _, _, _, _, _, _, _, rfl⟩ := h; rfl) | (obtain ⟨_, _, _, _, _, _, _, _, _, _, _, _, rfl⟩ := h; rfl) | (obtain ⟨_, _, _, _, _, _, _, _, _, _, _, _, _, rfl⟩ := h; rfl))) (fun _ _ _ _ _ _ us hl => match us, hl with | [_], _ => rfl) (fun f cdv A0 outer s H vs Q E hr h => ⟨_, (pss_cons (ps_set (i := 1) sc_cave_of.nd rfl (by first | exact Or.inl rfl | exact Or.inr rfl) (pe_cal (g_rows_in T) (hr.mono (by decide)) pass0 (pa_cons (pv 0) pa_nil)))
      (pss_cons (ps_setLc (i := 2) (own := [("byte", 3)]) (g := gName 3) (by rfl) sc_cave_of.nd rfl rfl (sw_true rfl rfl rfl (by decide +kernel)) (pi_list (pv 0)) (blkOk_by (own := [("byte", 3)]) (N := ["row", "rows", "cells", "byte"]) (sc := defScope (topS 20)) (by decide +kernel)) (fun _ _ _ _ _ => pg_name (i := 3) sc_cave_of.nd rfl (Or.inl rfl)) (fun _ _ _ _ _ => pts_one (pt_cmpR op_ne (pv 3) (pe_gi T.i_LINE_END) (nomark _))) (fun _ _ _ _ _ => (pe_bmK (K := K) rfl (pe_bm PySem.F.plainAttrs_tuple PySem.F.slot_tuple_index PySem.F.type_tuple_index (mt_tixIK (K := K)) (pe_gr T.g_BYTES) (pa_cons (pv 3) pa_nil)))))
      (pss_one (ps_ret (pe_mak (i_Cave T) (hr.mono (by decide)) pass0 (pa_cons (pe_callB call_len_seq (by rfl) T.b_len PySem.boot_len (pa_cons (pe_ix ix_list (pv 1) pe_int (fun _ _ => rfl)) pa_nil)) (pa_cons (pe_callB call_len_seq (by rfl) T.b_len PySem.boot_len (pa_cons (pv 1) pa_nil)) (pa_cons (pv 2) (pa_cons (pe_gi T.i_GOES_ON) (pa_cons pe_int pa_nil)))))))))), ?_⟩)
  obtain ⟨a, l, rfl, hl, hz, hf, k⟩ := h
  have hall : l.all okB = true := by
    unfold faultM at hf
    dsimp only at hf
    split at hf
    · cases hf
    · rename_i c; simpa using c
  have hne : rowsM l ≠ [] := by
    intro e
    unfold faultM at hf
    dsimp only at hf
    rw [if_neg (by rw [hall]; decide), if_neg (fun z => z.1 e), if_pos (.inl e)] at hf
    cases hf
  refine ⟨_, rfl, a, l, rfl, hl, hz, fun H1 p s1 hp ⟨as, hpa, hL⟩ => ?_⟩
  have ln := hL.len
  obtain ⟨a0, ha0⟩ : ∃ a0, as[0]? = some a0 := by
    cases as with
    | nil => rw [List.length_nil] at ln; exact absurd (List.length_eq_zero_iff.mp ln.symm) hne
    | cons x _ => exact ⟨x, rfl⟩
  obtain ⟨r0, hr3, hr4⟩ := hL.get ha0
  rw [head_get hne] at hr3
  obtain rfl := Option.some.inj hr3
  refine ⟨_, rfl, a, rfl, ⟨_, sq_same s1 hl⟩, fun D hD => lc_list (K := K) (a := a) (xs := vi l) (fun i H' => H' = upd H1 D (.lst (vi (((l.take i).filter fun b => !(b == 10)).map idxM)))) rfl (fun i H' _ e => by rw [e]; exact sq_same (same_new hD) (sq_same s1 hl)) ?_ ?_⟩
  · rintro i x H' hx rfl
    obtain ⟨b, hb, rfl⟩ := vi_of hx
    have hi : i < 400 := by have := (List.getElem?_eq_some_iff.mp hb).1; omega
    have hob : okB b = true := List.all_eq_true.mp hall b (List.mem_of_getElem? hb)
    refine ⟨rfl, ?_⟩
    refine ⟨_, rfl, rfl, _, rfl, ?_⟩
    show if (!decide (V.int ((b : Nat) : Int) = V.int ((10 : Nat) : Int))) = true then _ else _
    rw [vint_dec]
    by_cases c : b = 10
    · refine if_n (by rw [decide_eq_true c]; rfl) ?_
      rw [take_snoc hb, List.filter_append, List.filter_cons_of_neg (by simp [c]), List.filter_nil, List.append_nil]
    · refine if_y (by rw [decide_eq_false c]; rfl) ?_
      have hs : sgnL.contains b = true := by
        unfold okB at hob
        rw [Bool.or_eq_true] at hob
        rcases hob with h | h
        · exact h
        · exact absurd (by simpa using h) c
      obtain ⟨g1, g2⟩ := idx_get hs
      refine ⟨T.t_BYTES.ty, _, rfl, A.bytes, sgnL, b, idxM b, rfl, rfl, T.t_BYTES.sq, g1, g2, _, upd_same, small1000 ?_, ?_⟩
      · rw [vi_len, List.length_map]
        have := List.length_filter_le (fun b => !(b == 10)) (l.take i)
        rw [List.length_take] at this
        omega
      · show upd _ _ _ = _
        rw [upd_upd, take_snoc hb, List.filter_append, List.filter_cons_of_pos (by simp [c]), List.filter_nil, List.map_append, vi_app]
        rfl
  · rintro H2 rfl
    rw [vi_len, List.take_length]
    have s2 := same_new (o := .lst (vi ((l.filter fun b => !(b == 10)).map idxM))) hD
    refine ⟨_, rfl, _, _, _, _, rfl, rfl, SqL.of (s2 _ _ hpa), at_ix (j := 0) rfl (vr_get ha0), _, _, rfl, .inl (SqL.of (s2 _ _ hr4)), _, rfl, _, _, rfl, .inl (SqL.of (s2 _ _ hpa)), _, rfl, ?_⟩
    intro x dx hx hdx nex
    have hc2 : upd H1 D (.lst (vi ((l.filter fun b => !(b == 10)).map idxM))) D = some (.lst (vi (caveM l).cells)) := upd_same
    have hD0 : H D = none := by
      cases z : H D with
      | none => rfl
      | some o => rw [s1 _ _ z] at hD; cases hD
    generalize upd H1 D (.lst (vi ((l.filter fun b => !(b == 10)).map idxM))) = H2 at s2 hx hdx hc2 ⊢
    refine ⟨x, dx, D, caveM l, ?_, upd_same, fun H3 h3 f3 => ⟨rfl, ?_⟩⟩
    · rw [vi_len, vr_len, ln]; rfl
    have s3 : Same H2 H3 := fun b o q => f3 b o (same_up (same_new hdx) hx b o q) (by
      intro z
      rw [List.mem_singleton.mp z, hx] at q
      cases q)
    refine k _ x ⟨fun b o q => s3 _ _ (s2 _ _ (s1 _ _ q)), dx, D, h3, s3 _ _ hc2, ?_, hD0⟩
    cases z : H x with
    | none => rfl
    | some o => rw [s2 _ _ (s1 _ _ z)] at hx; cases hx
theorem g_first_cave (T : Txt K mg A) : CallOk P w K mg base CX0 3 "first_cave" [] (spFirst A) := by
  refine T.d_first_cave.ok (N := []) sc_first_cave (fun vs H Q E h => by obtain ⟨rfl, _⟩ := h; rfl) (fun _ _ _ _ _ _ us hl => match us, hl with | [], _ => rfl) (fun f cdv A0 outer s H vs Q E hr h => ⟨_, (pss_one (ps_ret (pe_mak (i_Cave T) (hr.mono (by decide)) pass0 (pa_cons pe_int (pa_cons pe_int (pa_cons (pe_op op_cat (pe_op op_cat (pe_op op_rep (pe_lst (pa_cons (pe_gi T.i_WALL) pa_nil)) pe_int) (pe_lst (pa_cons (pe_gi T.i_PLAYER) pa_nil))) (pe_op op_rep (pe_lst (pa_cons (pe_gi T.i_WALL) pa_nil)) pe_int)) (pa_cons (pe_gi T.i_GOES_ON) (pa_cons pe_int pa_nil)))))))), ?_⟩)
  obtain ⟨rfl, k⟩ := h
  have main : ∀ (G : Hp) (p : Addr), Same H G → G p = some (.lst (vi cave0M.cells)) → H p = none → ∀ x dx, G x = none → G dx = none → dx ≠ x → spCaveI A (.ref x :: [.int 3, .int 3, .ref p, .int 0, .int 0]) (upd (upd G dx (.own x)) x (.ins A.cave dx (kz [] []))) (fun v H2 => v = .non ∧ Q (.ref x) H2) E0 := fun G p S hc h0 x dx hx hdx nex => by
    refine ⟨x, dx, p, cave0M, rfl, upd_same, fun H3 h3 f3 => ⟨rfl, ?_⟩⟩
    have s3 : Same G H3 := fun b o q => f3 b o (same_up (same_new hdx) hx b o q) (by
      intro z
      rw [List.mem_singleton.mp z, hx] at q
      cases q)
    refine k _ x ⟨fun b o q => s3 _ _ (S _ _ q), dx, p, h3, s3 _ _ hc, ?_, h0⟩
    cases z : H x with
    | none => rfl
    | some o => rw [S _ _ z] at hx; cases hx
  refine ⟨(by show 1 ≤ sizeLine; decide), fun p1 h1 => ⟨p1, _, _, rfl, rfl, upd_same, by decide, by decide, (by show 1 * 4 ≤ sizeLine; decide), fun p2 h2 => ?_⟩⟩
  refine ⟨(by show 1 ≤ sizeLine; decide), fun p3 h3 => ⟨p2, p3, _, _, rfl, rfl, same_new h3 _ _ upd_same, upd_same, (by show 4 + 1 ≤ sizeLine; decide), fun p4 h4 => ?_⟩⟩
  refine ⟨(by show 1 ≤ sizeLine; decide), fun p5 h5 => ⟨p5, _, _, rfl, rfl, upd_same, by decide, by decide, (by show 1 * 4 ≤ sizeLine; decide), fun p6 h6 => ?_⟩⟩
  refine ⟨p4, p6, _, _, rfl, rfl, same_new h6 _ _ (same_new h5 _ _ upd_same), upd_same, (by show 5 + 4 ≤ sizeLine; decide), fun p7 h7 => ?_⟩
  refine main _ p7 (fun b o q => same_new h7 b o (same_new h6 b o (same_new h5 b o (same_new h4 b o (same_new h3 b o (same_new h2 b o (same_new h1 b o q))))))) upd_same ?_
  cases z : H p7 with
  | none => rfl
  | some o => exact nomatch (same_new h6 p7 o (same_new h5 p7 o (same_new h4 p7 o (same_new h3 p7 o (same_new h2 p7 o (same_new h1 p7 o z)))))).symm.trans h7
end
end SC
/-! SC10: games. -/
namespace SC
open PySem PySem.Spec PyProof.Rows L2
structure GM where
  caves : List CM
  keys : List Nat
  left : Nat
  length : Nat
  held : Nat
  deriving DecidableEq
def GM.cave (m : GM) (k : Nat) : CM := m.caves.getD k cave0M
def GM.now (m : GM) : CM := m.cave m.keys.length
structure GM.Ok (m : GM) : Prop where
  lc : m.caves.length = m.keys.length + 1
  ok : ∀ c ∈ m.caves, c.Ok
  lk : m.keys.length ≤ 400
  k4 : ∀ k ∈ m.keys, k ≤ 4
  h4 : m.held ≤ 4
  hl : 1 ≤ m.length ∧ m.length ≤ 100
  lt : m.left < m.length
abbrev CavesL (A : Ad) (H : Hp) : List Addr → List CM → Prop := Paired fun a c => CaveAt A H a c
theorem CavesL.mono {A : Ad} {H H' : Hp} {as : List Addr} {cs : List CM} (h : CavesL A H as cs) (e : Same H H') : CavesL A H' as cs := Paired.mapP h fun _ _ q => q.mono e
theorem CavesL.len {A : Ad} {H : Hp} {as : List Addr} {cs : List CM} (h : CavesL A H as cs) : as.length = cs.length := Paired.length h
theorem CavesL.snoc {A : Ad} {H : Hp} {as : List Addr} {cs : List CM} {a : Addr} {c : CM} (h : CavesL A H as cs) (e : CaveAt A H a c) : CavesL A H (as ++ [a]) (cs ++ [c]) := by
  induction h with
  | nil => exact .cons e .nil
  | cons r t ih => exact .cons r ih
theorem CavesL.get {A : Ad} {H : Hp} {as : List Addr} {cs : List CM} (h : CavesL A H as cs) : ∀ {i : Nat} {c : CM}, cs[i]? = some c → ∃ a, as[i]? = some a ∧ CaveAt A H a c := by
  induction h with
  | nil => intro i a e; simp at e
  | cons r t ih =>
    intro i a e
    cases i with
    | zero =>
      have e : _ = a := Option.some.inj e
      subst e
      exact ⟨_, rfl, r⟩
    | succ i => exact ih (i := i) e
theorem CavesL.take {A : Ad} {H : Hp} {as : List Addr} {cs : List CM} (h : CavesL A H as cs) : ∀ n, CavesL A H (as.take n) (cs.take n) := by
  induction h with
  | nil => intro n; rw [List.take_nil, List.take_nil]; exact .nil
  | cons r t ih =>
    intro n
    cases n with
    | zero => exact .nil
    | succ n => exact .cons r (ih n)
def gmF (cl pl : Addr) (m : GM) : List V := [.ref cl, .ref pl, .int m.left, .int m.length, .int m.held]
/-- the game at g with its lists -/
def GameL (A : Ad) (H : Hp) (g : Addr) (as : List Addr) (m : GM) : Prop := ∃ dx cl pl, H g = some (.ins A.game dx (kz kGame (gmF cl pl m))) ∧ H cl = some (.lst (vr as)) ∧ H pl = some (.lst (vi m.keys))
def GameR (A : Ad) (H : Hp) (g : Addr) (m : GM) : Prop := ∃ as, GameL A H g as m ∧ CavesL A H as m.caves
theorem GameL.mono {A : Ad} {H H' : Hp} {g : Addr} {as : List Addr} {m : GM} (h : GameL A H g as m) (e : Same H H') : GameL A H' g as m :=
  let ⟨dx, cl, pl, h1, h2, h3⟩ := h; ⟨dx, cl, pl, e _ _ h1, e _ _ h2, e _ _ h3⟩
theorem GameR.mono {A : Ad} {H H' : Hp} {g : Addr} {m : GM} (h : GameR A H g m) (e : Same H H') : GameR A H' g m :=
  let ⟨as, h1, h2⟩ := h; ⟨as, h1.mono e, h2.mono e⟩
/-- the game at g, owned: g, its lists cl and pl are in own, its caves are not -/
structure GameAt (A : Ad) (H : Hp) (own : List Addr) (g cl pl : Addr) (m : GM) : Prop where
  ex : ∃ dx as, H g = some (.ins A.game dx (kz kGame (gmF cl pl m))) ∧ H cl = some (.lst (vr as)) ∧ H pl = some (.lst (vi m.keys)) ∧ CavesL A (hide own H) as m.caves
  live : ∀ b ∈ own, ∃ o, H b = some o
  og : g ∈ own
  oc : cl ∈ own
  op : pl ∈ own
  ne : cl ≠ pl
theorem GameAt.r {A : Ad} {H : Hp} {own : List Addr} {g cl pl : Addr} {m : GM} (h : GameAt A H own g cl pl m) : GameR A H g m :=
  let ⟨dx, as, h1, h2, h3, h4⟩ := h.ex; ⟨as, ⟨dx, cl, pl, h1, h2, h3⟩, h4.mono hide_le⟩
theorem GameAt.sub {A : Ad} {H : Hp} {own : List Addr} {g cl pl : Addr} {m : GM} (h : GameAt A H own g cl pl m) : ∀ b ∈ [g, cl, pl], b ∈ own := fun b hb => by
  simp only [List.mem_cons, List.not_mem_nil, or_false] at hb
  rcases hb with z | z | z
  · rw [z]; exact h.og
  · rw [z]; exact h.oc
  · rw [z]; exact h.op
/-- what stays: everything (a heap grown) -/
theorem GameAt.mono {A : Ad} {H H' : Hp} {own : List Addr} {g cl pl : Addr} {m : GM} (h : GameAt A H own g cl pl m) (e : Same H H') : GameAt A H' own g cl pl m := by
  obtain ⟨dx, as, h1, h2, h3, h4⟩ := h.ex
  refine ⟨⟨dx, as, e _ _ h1, e _ _ h2, e _ _ h3, h4.mono (hide_same (Fr.same (W := []) e) (by simp) fun b z => .inl z)⟩, fun b z => ?_, h.og, h.oc, h.op, h.ne⟩
  obtain ⟨o, q⟩ := h.live b z
  exact ⟨o, e _ _ q⟩
theorem GameAt.ngc {A : Ad} {H : Hp} {own : List Addr} {g cl pl : Addr} {m : GM} (h : GameAt A H own g cl pl m) : g ≠ cl := by
  obtain ⟨dx, as, h1, h2, _⟩ := h.ex
  exact ne_of h1 h2 (by intro z; cases z)
theorem GameAt.ngp {A : Ad} {H : Hp} {own : List Addr} {g cl pl : Addr} {m : GM} (h : GameAt A H own g cl pl m) : g ≠ pl := by
  obtain ⟨dx, as, h1, _, h3, _⟩ := h.ex
  exact ne_of h1 h3 (by intro z; cases z)
def GM.tick (m : GM) (key : Nat) : GM := if m.now.st = 0 then { m with caves := m.caves ++ [tickM m.now key], keys := m.keys ++ [key] } else m
def GM.ticks : Nat → GM → GM
  | 0, m => m
  | n + 1, m => GM.ticks n (m.tick m.held)
def GM.due (m : GM) (parts : Nat) : Nat := (m.left + parts) / m.length
def GM.frame (m : GM) (parts : Nat) : GM := GM.ticks (m.due parts) { m with left := (m.left + parts) % m.length }
def GM.takeLen (m : GM) (l : Nat) : GM := { m with length := l, left := min m.left (l - 1) }
def GM.back (m : GM) (k : Nat) : GM := { m with caves := m.caves.take (k + 1), keys := m.keys.take k, left := 0 }
def GM.new (c : CM) (l : Nat) : GM := ⟨[c], [], 0, l, 0⟩
def GM.stood (m : GM) (k : Nat) : List Nat := [(m.cave k).st, (m.cave k).pts, k, (m.cave k).gems]
def GM.parts (m o : GM) : Option Nat := (m.caves.zip o.caves).findIdx? fun p => !(p.1.like p.2)
theorem cave_get {m : GM} (ok : m.Ok) {k : Nat} (h : k ≤ m.keys.length) : m.caves[k]? = some (m.cave k) := by
  unfold GM.cave
  rw [List.getD_eq_getElem?_getD, List.getElem?_eq_getElem (show k < m.caves.length by rw [ok.lc]; omega)]; rfl
theorem cave_ok {m : GM} (ok : m.Ok) {k : Nat} (h : k ≤ m.keys.length) : (m.cave k).Ok := ok.ok _ (List.mem_of_getElem? (cave_get ok h))
/-! promises -/
def spNow (A : Ad) : Sp := fun vs H Q _ => ∃ (g : Addr) (m : GM), vs = [.ref g] ∧ GameR A H g m ∧ m.Ok ∧ ∀ as a, GameL A H g as m → as[m.keys.length]? = some a → CaveAt A H a m.now → Q (.ref a) H
def spMany (A : Ad) : Sp := fun vs H Q _ => ∃ (g : Addr) (m : GM), vs = [.ref g] ∧ GameR A H g m ∧ Q (.int m.keys.length) H
def spGoes (A : Ad) : Sp := fun vs H Q _ => ∃ (g : Addr) (m : GM), vs = [.ref g] ∧ GameR A H g m ∧ m.Ok ∧ Q (.bl (decide (m.now.st = 0))) H
def spStood (A : Ad) : Sp := fun vs H Q _ => ∃ (g : Addr) (m : GM) (k : Nat), vs = [.ref g, .int k] ∧ GameR A H g m ∧ m.Ok ∧ k ≤ m.keys.length ∧ ∀ p, H p = none → Q (.ref p) (upd H p (.lst (vi (m.stood k))))
def spStands (A : Ad) : Sp := fun vs H Q _ => ∃ (g : Addr) (m : GM), vs = [.ref g] ∧ GameR A H g m ∧ m.Ok ∧ ∀ p, H p = none → Q (.ref p) (upd H p (.lst (vi (m.stood m.keys.length))))
def spDue (A : Ad) : Sp := fun vs H Q _ => ∃ (g : Addr) (m : GM) (parts : Nat), vs = [.ref g, .int parts] ∧ GameR A H g m ∧ m.Ok ∧ Q (.int (m.due parts)) H
def spGTick (A : Ad) : Sp := fun vs H Q _ => ∃ (own : List Addr) (g cl pl : Addr) (m : GM) (key : Nat), vs = [.ref g, .int key] ∧ GameAt A H own g cl pl m ∧ m.Ok ∧ key ≤ 4 ∧ (m.now.st = 0 → m.keys.length < 400) ∧
  ∀ H', GameAt A H' own g cl pl (m.tick key) → Fr [g, cl, pl] H H' → Q .non H'
def spGFrame (A : Ad) : Sp := fun vs H Q _ => ∃ (own : List Addr) (g cl pl : Addr) (m : GM) (parts : Nat), vs = [.ref g, .int parts] ∧ GameAt A H own g cl pl m ∧ m.Ok ∧ parts ≤ 1000 ∧ (m.now.st = 0 → m.keys.length + m.due parts ≤ 400) ∧
  ∀ H', GameAt A H' own g cl pl (m.frame parts) → Fr [g, cl, pl] H H' → Q .non H'
def spTakeLen (A : Ad) : Sp := fun vs H Q _ => ∃ (own : List Addr) (g cl pl : Addr) (m : GM) (l : Nat), vs = [.ref g, .int l] ∧ GameAt A H own g cl pl m ∧ 1 ≤ l ∧
  ∀ H', GameAt A H' own g cl pl (m.takeLen l) → Fr [g, cl, pl] H H' → Q .non H'
def spGBack (A : Ad) : Sp := fun vs H Q _ => ∃ (own : List Addr) (g cl pl : Addr) (m : GM) (k : Nat), vs = [.ref g, .int k] ∧ GameAt A H own g cl pl m ∧ m.Ok ∧ k ≤ m.keys.length ∧
  ∀ H' cl' pl', GameAt A H' (cl' :: pl' :: own) g cl' pl' (m.back k) → H cl' = none → H pl' = none → Fr [g, cl, pl] H H' → Q .non H'
/-- a game that is new in H': its places are free in H -/
structure GameNew (A : Ad) (H H' : Hp) (g : Addr) (as : List Addr) (m : GM) : Prop where
  ex : ∃ dx cl pl, H' g = some (.ins A.game dx (kz kGame (gmF cl pl m))) ∧ H' cl = some (.lst (vr as)) ∧ H' pl = some (.lst (vi m.keys)) ∧ H cl = none ∧ H pl = none ∧ cl ≠ pl
  fg : H g = none
  same : Same H H'
def spGameI (A : Ad) : Sp := fun vs H Q _ => ∃ (g dx a : Addr) (l : Nat), vs = [.ref g, .ref a, .int l] ∧ H g = some (.ins A.game dx (kz [] [])) ∧
  ∀ H' cl pl, H' g = some (.ins A.game dx (kz kGame [.ref cl, .ref pl, .int 0, .int l, .int 0])) → H' cl = some (.lst [.ref a]) → H' pl = some (.lst []) → Fr [g] H H' → H cl = none → H pl = none → cl ≠ pl → Q .non H'
def spCopied (A : Ad) : Sp := fun vs H Q _ => ∃ (g : Addr) (as : List Addr) (m : GM), vs = [.ref g] ∧ GameL A H g as m ∧ as ≠ [] ∧ ∀ H' g2, GameNew A H H' g2 as m → Q (.ref g2) H'
section
variable {P : Program} {w : World} {K : PySem.W.Frag} {mg : Str → Option Value} {base : Heap} {A : Ad}
theorem sc_Game___init__ : FnScope ["self", "cave", "length"] ["self", "cave", "length"] (defScope (inClass (topS 39) 0)) := ⟨rfl, rfl, rfl, by decide +kernel, rfl, by decide +kernel, by decide +kernel⟩
theorem sc_Game_now : FnScope ["self"] ["self"] (defScope (inClass (topS 39) 1)) := ⟨rfl, rfl, rfl, by decide +kernel, rfl, by decide +kernel, by decide +kernel⟩
theorem sc_Game_many : FnScope ["self"] ["self"] (defScope (inClass (topS 39) 2)) := ⟨rfl, rfl, rfl, by decide +kernel, rfl, by decide +kernel, by decide +kernel⟩
theorem sc_Game_goes_on : FnScope ["self"] ["self"] (defScope (inClass (topS 39) 3)) := ⟨rfl, rfl, rfl, by decide +kernel, rfl, by decide +kernel, by decide +kernel⟩
theorem sc_Game_stood : FnScope ["self", "many", "cave"] ["self", "many"] (defScope (inClass (topS 39) 4)) := ⟨rfl, rfl, rfl, by decide +kernel, rfl, by decide +kernel, by decide +kernel⟩
theorem sc_Game_stands : FnScope ["self"] ["self"] (defScope (inClass (topS 39) 5)) := ⟨rfl, rfl, rfl, by decide +kernel, rfl, by decide +kernel, by decide +kernel⟩
theorem sc_Game_tick : FnScope ["self", "key"] ["self", "key"] (defScope (inClass (topS 39) 6)) := ⟨rfl, rfl, rfl, by decide +kernel, rfl, by decide +kernel, by decide +kernel⟩
theorem sc_Game_many_due : FnScope ["self", "parts"] ["self", "parts"] (defScope (inClass (topS 39) 7)) := ⟨rfl, rfl, rfl, by decide +kernel, rfl, by decide +kernel, by decide +kernel⟩
theorem sc_Game_frame : FnScope ["self", "parts", "many", "turn"] ["self", "parts"] (defScope (inClass (topS 39) 8)) := ⟨rfl, rfl, rfl, by decide +kernel, rfl, by decide +kernel, by decide +kernel⟩
theorem sc_Game_take_length : FnScope ["self", "length"] ["self", "length"] (defScope (inClass (topS 39) 9)) := ⟨rfl, rfl, rfl, by decide +kernel, rfl, by decide +kernel, by decide +kernel⟩
theorem sc_Game_back : FnScope ["self", "many"] ["self", "many"] (defScope (inClass (topS 39) 10)) := ⟨rfl, rfl, rfl, by decide +kernel, rfl, by decide +kernel, by decide +kernel⟩
theorem sc_Game_copied : FnScope ["self", "found"] ["self"] (defScope (inClass (topS 39) 11)) := ⟨rfl, rfl, rfl, by decide +kernel, rfl, by decide +kernel, by decide +kernel⟩
theorem i_Game (T : Txt K mg A) : MakeOk P w K mg base CX0 1 A.game "Game" ["self", "cave", "length"] (spGameI A) := by
  refine T.d_Game.ok (N := ["self", "cave", "length"]) sc_Game___init__ (fun vs H Q E h => (by first | (obtain ⟨rfl, _⟩ := h; rfl) | (obtain ⟨_, rfl, _⟩ := h; rfl) | (obtain ⟨_, _, rfl, _⟩ := h; rfl) | (obtain ⟨_, _, _, rfl, _⟩ := h; rfl) | (obtain ⟨_, _, _, _, rfl, _⟩ := h; rfl) | (obtain ⟨_, _, _, _, _, rfl, _⟩ := h; rfl) | (obtain ⟨_, _, _, _, _, _, rfl, _⟩ := h; rfl) | (obtain ⟨_, _, _, _, _, _, _, rfl, _⟩ := h; rfl) | (obtain ⟨_, _, _, _, _, _, _, _, rfl, _⟩ := h; rfl) | (obtain ⟨_, _, _, _, _, _, _, _, _, rfl, _⟩ := h; rfl) | (obtain ⟨_, _, _, _, _, _, _, _, _, _, rfl, _⟩ := h; rfl) | (obtain ⟨_, _, _, _, _, _, _, _, _, _, _, rfl, _⟩ := h; rfl) | (obtain ⟨_, _, _, _, _, _, _, _, _, _, _, _, rfl, _⟩ := h; rfl) | (obtain ⟨_, _, _, _, _, _, _, _, _, _, _, _, _, rfl, _⟩ := h; rfl) | (obtain ⟨rfl⟩ := h; rfl) | (obtain ⟨_, rfl⟩ := h; rfl) | (obtain ⟨_, _, rfl⟩ := h; rfl) | (obtain ⟨_, _, _, rfl⟩ := h; rfl) | (obtain ⟨_, _, _, _, rfl⟩ := h; rfl) | (obtain ⟨_, _, _, _, _, rfl⟩ := h; rfl) | (obtain ⟨_, _, _, _, _, _, rfl⟩ := h; rfl) | (obtain ⟨_, _, _, _, _, _, _, rfl⟩ := h; rfl) | (obtain ⟨_, _, _, _, _, _, _, _, rfl⟩ := h; rfl) | (obtain ⟨_, _, _, _, _, _, _, _, _, rfl⟩ := h; rfl) | (obtain ⟨_, _, _, _, _, _, _, _, _, _, rfl⟩ := h; rfl) | (obtain ⟨_, _, _, _, _, _, _, _, _, _, _, rfl⟩ := h; rfl) | (obtain ⟨_, _, _, _, _, _, _, _, _, _, _, _, rfl⟩ := h; rfl) | (obtain ⟨_, _, _, _, _, _, _, _, _, _, _, _, _, rfl⟩ := h; rfl))) (fun _ _ _ _ _ _ us hl => match us, hl with | [_, _, _], _ => rfl) (fun f cdv A0 outer s H vs Q E hr h => ⟨_, (pss_cons (ps_new (ks := []) T.cGame T.nGame_caves (by decide +kernel) (by decide) (pv 0) (pe_lst (pa_cons (pv 1) pa_nil)) rfl)
      (pss_cons (ps_new (ks := ["caves"]) T.cGame T.nGame_pressed (by decide +kernel) (by decide) (pv 0) (pe_lst pa_nil) rfl)
      (pss_cons (ps_new (ks := ["caves", "pressed"]) T.cGame T.nGame_left (by decide +kernel) (by decide) (pv 0) pe_int rfl)
      (pss_cons (ps_new (ks := ["caves", "pressed", "left"]) T.cGame T.nGame_length (by decide +kernel) (by decide) (pv 0) (pv 2) rfl)
      (pss_one (ps_new (ks := ["caves", "pressed", "left", "length"]) T.cGame T.nGame_held (by decide +kernel) (by decide) (pv 0) pe_int rfl)))))), ?_⟩)
  obtain ⟨g, dx, a, l, rfl, hg, k⟩ := h
  refine ⟨_, rfl, (by show 1 ≤ sizeLine; decide), fun cl hcl => ⟨_, rfl, _, _, _, rfl, same_new hcl _ _ hg, rfl, ?_⟩⟩
  have ncg : cl ≠ g := Ne.symm (ne_of_none hg hcl)
  generalize hU : upd (upd H cl _) g _ = H1
  have f1 : Fr [g] H H1 := by rw [← hU]; exact ((Fr.refl _ _).new hcl).upd (by simp)
  have g1 := upd_at hU
  have c1 : H1 cl = some (.lst [.ref a]) := by rw [← hU, upd_ne ncg]; exact upd_same
  clear hU
  refine ⟨(by show 0 ≤ sizeLine; decide), fun pl hpl => ⟨_, rfl, _, _, _, rfl, same_new hpl _ _ g1, rfl, ?_⟩⟩
  have npg : pl ≠ g := Ne.symm (ne_of_none g1 hpl)
  have ncp : cl ≠ pl := ne_of_none c1 hpl
  have hpl0 : H pl = none := by
    cases z : H pl with
    | none => rfl
    | some o => rw [f1 _ _ z (by simp [npg])] at hpl; cases hpl
  generalize hU : upd (upd H1 pl _) g _ = H2
  have f2 : Fr [g] H H2 := by rw [← hU]; exact (f1.new hpl).upd (by simp)
  have g2 := upd_at hU
  have c2 : H2 cl = some (.lst [.ref a]) := by rw [← hU, upd_ne ncg, upd_ne ncp]; exact c1
  have p2 : H2 pl = some (.lst []) := by rw [← hU, upd_ne npg]; exact upd_same
  clear hU
  refine ⟨_, rfl, _, _, _, rfl, g2, rfl, ?_⟩
  refine ⟨_, rfl, _, rfl, _, _, _, rfl, upd_same, rfl, ?_⟩
  refine ⟨_, rfl, _, _, _, rfl, upd_same, rfl, ?_⟩
  exact k _ cl pl upd_same (by rw [upd_ne ncg, upd_ne ncg, upd_ne ncg]; exact c2) (by rw [upd_ne npg, upd_ne npg, upd_ne npg]; exact p2) (((f2.upd (by simp)).upd (by simp)).upd (by simp)) hcl hpl0 ncp
theorem last_at {as : List Addr} {n : Nat} {a : Addr} (h : as.length = n + 1) (e : as[n]? = some a) : atI (vr as) (-1) = some (.ref a) := by
  have q : as = as.take n ++ [a] := by rw [← take_snoc e, List.take_of_length_le (by omega)]
  rw [q, vr_app]
  exact atI_last _ _
theorem m_Game_now (T : Txt K mg A) : MethOk P w K mg base CX0 1 A.game "now" ["self"] (spNow A) := by
  refine T.d_Game_now.ok (N := ["self"]) sc_Game_now (fun vs H Q E h => (by first | (obtain ⟨rfl, _⟩ := h; rfl) | (obtain ⟨_, rfl, _⟩ := h; rfl) | (obtain ⟨_, _, rfl, _⟩ := h; rfl) | (obtain ⟨_, _, _, rfl, _⟩ := h; rfl) | (obtain ⟨_, _, _, _, rfl, _⟩ := h; rfl) | (obtain ⟨_, _, _, _, _, rfl, _⟩ := h; rfl) | (obtain ⟨_, _, _, _, _, _, rfl, _⟩ := h; rfl) | (obtain ⟨_, _, _, _, _, _, _, rfl, _⟩ := h; rfl) | (obtain ⟨_, _, _, _, _, _, _, _, rfl, _⟩ := h; rfl) | (obtain ⟨_, _, _, _, _, _, _, _, _, rfl, _⟩ := h; rfl) | (obtain ⟨_, _, _, _, _, _, _, _, _, _, rfl, _⟩ := h; rfl) | (obtain ⟨_, _, _, _, _, _, _, _, _, _, _, rfl, _⟩ := h; rfl) | (obtain ⟨_, _, _, _, _, _, _, _, _, _, _, _, rfl, _⟩ := h; rfl) | (obtain ⟨_, _, _, _, _, _, _, _, _, _, _, _, _, rfl, _⟩ := h; rfl) | (obtain ⟨rfl⟩ := h; rfl) | (obtain ⟨_, rfl⟩ := h; rfl) | (obtain ⟨_, _, rfl⟩ := h; rfl) | (obtain ⟨_, _, _, rfl⟩ := h; rfl) | (obtain ⟨_, _, _, _, rfl⟩ := h; rfl) | (obtain ⟨_, _, _, _, _, rfl⟩ := h; rfl) | (obtain ⟨_, _, _, _, _, _, rfl⟩ := h; rfl) | (obtain ⟨_, _, _, _, _, _, _, rfl⟩ := h; rfl) | (obtain ⟨_, _, _, _, _, _, _, _, rfl⟩ := h; rfl) | (obtain ⟨_, _, _, _, _, _, _, _, _, rfl⟩ := h; rfl) | (obtain ⟨_, _, _, _, _, _, _, _, _, _, rfl⟩ := h; rfl) | (obtain ⟨_, _, _, _, _, _, _, _, _, _, _, rfl⟩ := h; rfl) | (obtain ⟨_, _, _, _, _, _, _, _, _, _, _, _, rfl⟩ := h; rfl) | (obtain ⟨_, _, _, _, _, _, _, _, _, _, _, _, _, rfl⟩ := h; rfl))) (fun _ _ _ _ _ _ us hl => match us, hl with | [_], _ => rfl) (fun f cdv A0 outer s H vs Q E hr h => ⟨_, (pss_one (ps_ret (pe_ix ix_list (pe_get (ks := kGame) (i := 0) T.cGame T.nGame_caves (by decide +kernel) (pv 0)) (pe_un un_neg pe_int) (fun _ _ => rfl)))), ?_⟩)
  obtain ⟨g, m, rfl, ⟨as, hG, hC⟩, ok, k⟩ := h
  obtain ⟨a, ha, hca⟩ := hC.get (cave_get ok (Nat.le_refl _))
  have q := k as a hG ha hca
  obtain ⟨dx, cl, pl, h1, h2, h3⟩ := hG
  exact ⟨_, rfl, _, _, _, _, rfl, h1, rfl, _, rfl, _, _, _, _, rfl, rfl, SqL.of h2, last_at (by rw [hC.len, ok.lc]) ha, q⟩
theorem m_Game_many (T : Txt K mg A) : MethOk P w K mg base CX0 1 A.game "many" ["self"] (spMany A) := by
  refine T.d_Game_many.ok (N := ["self"]) sc_Game_many (fun vs H Q E h => (by first | (obtain ⟨rfl, _⟩ := h; rfl) | (obtain ⟨_, rfl, _⟩ := h; rfl) | (obtain ⟨_, _, rfl, _⟩ := h; rfl) | (obtain ⟨_, _, _, rfl, _⟩ := h; rfl) | (obtain ⟨_, _, _, _, rfl, _⟩ := h; rfl) | (obtain ⟨_, _, _, _, _, rfl, _⟩ := h; rfl) | (obtain ⟨_, _, _, _, _, _, rfl, _⟩ := h; rfl) | (obtain ⟨_, _, _, _, _, _, _, rfl, _⟩ := h; rfl) | (obtain ⟨_, _, _, _, _, _, _, _, rfl, _⟩ := h; rfl) | (obtain ⟨_, _, _, _, _, _, _, _, _, rfl, _⟩ := h; rfl) | (obtain ⟨_, _, _, _, _, _, _, _, _, _, rfl, _⟩ := h; rfl) | (obtain ⟨_, _, _, _, _, _, _, _, _, _, _, rfl, _⟩ := h; rfl) | (obtain ⟨_, _, _, _, _, _, _, _, _, _, _, _, rfl, _⟩ := h; rfl) | (obtain ⟨_, _, _, _, _, _, _, _, _, _, _, _, _, rfl, _⟩ := h; rfl) | (obtain ⟨rfl⟩ := h; rfl) | (obtain ⟨_, rfl⟩ := h; rfl) | (obtain ⟨_, _, rfl⟩ := h; rfl) | (obtain ⟨_, _, _, rfl⟩ := h; rfl) | (obtain ⟨_, _, _, _, rfl⟩ := h; rfl) | (obtain ⟨_, _, _, _, _, rfl⟩ := h; rfl) | (obtain ⟨_, _, _, _, _, _, rfl⟩ := h; rfl) | (obtain ⟨_, _, _, _, _, _, _, rfl⟩ := h; rfl) | (obtain ⟨_, _, _, _, _, _, _, _, rfl⟩ := h; rfl) | (obtain ⟨_, _, _, _, _, _, _, _, _, rfl⟩ := h; rfl) | (obtain ⟨_, _, _, _, _, _, _, _, _, _, rfl⟩ := h; rfl) | (obtain ⟨_, _, _, _, _, _, _, _, _, _, _, rfl⟩ := h; rfl) | (obtain ⟨_, _, _, _, _, _, _, _, _, _, _, _, rfl⟩ := h; rfl) | (obtain ⟨_, _, _, _, _, _, _, _, _, _, _, _, _, rfl⟩ := h; rfl))) (fun _ _ _ _ _ _ us hl => match us, hl with | [_], _ => rfl) (fun f cdv A0 outer s H vs Q E hr h => ⟨_, (pss_one (ps_ret (pe_callB call_len_seq (by rfl) T.b_len PySem.boot_len (pa_cons (pe_get (ks := kGame) (i := 1) T.cGame T.nGame_pressed (by decide +kernel) (pv 0)) pa_nil)))), ?_⟩)
  obtain ⟨g, m, rfl, ⟨as, ⟨dx, cl, pl, h1, h2, h3⟩, hC⟩, k⟩ := h
  exact ⟨_, rfl, _, _, _, _, rfl, h1, rfl, _, _, rfl, .inl (SqL.of h3), q_of (Q := Q) k (by rw [vi_len])⟩
theorem m_Game_goes_on (T : Txt K mg A) : MethOk P w K mg base CX0 2 A.game "goes_on" ["self"] (spGoes A) := by
  refine T.d_Game_goes_on.ok (N := ["self"]) sc_Game_goes_on (fun vs H Q E h => (by first | (obtain ⟨rfl, _⟩ := h; rfl) | (obtain ⟨_, rfl, _⟩ := h; rfl) | (obtain ⟨_, _, rfl, _⟩ := h; rfl) | (obtain ⟨_, _, _, rfl, _⟩ := h; rfl) | (obtain ⟨_, _, _, _, rfl, _⟩ := h; rfl) | (obtain ⟨_, _, _, _, _, rfl, _⟩ := h; rfl) | (obtain ⟨_, _, _, _, _, _, rfl, _⟩ := h; rfl) | (obtain ⟨_, _, _, _, _, _, _, rfl, _⟩ := h; rfl) | (obtain ⟨_, _, _, _, _, _, _, _, rfl, _⟩ := h; rfl) | (obtain ⟨_, _, _, _, _, _, _, _, _, rfl, _⟩ := h; rfl) | (obtain ⟨_, _, _, _, _, _, _, _, _, _, rfl, _⟩ := h; rfl) | (obtain ⟨_, _, _, _, _, _, _, _, _, _, _, rfl, _⟩ := h; rfl) | (obtain ⟨_, _, _, _, _, _, _, _, _, _, _, _, rfl, _⟩ := h; rfl) | (obtain ⟨_, _, _, _, _, _, _, _, _, _, _, _, _, rfl, _⟩ := h; rfl) | (obtain ⟨rfl⟩ := h; rfl) | (obtain ⟨_, rfl⟩ := h; rfl) | (obtain ⟨_, _, rfl⟩ := h; rfl) | (obtain ⟨_, _, _, rfl⟩ := h; rfl) | (obtain ⟨_, _, _, _, rfl⟩ := h; rfl) | (obtain ⟨_, _, _, _, _, rfl⟩ := h; rfl) | (obtain ⟨_, _, _, _, _, _, rfl⟩ := h; rfl) | (obtain ⟨_, _, _, _, _, _, _, rfl⟩ := h; rfl) | (obtain ⟨_, _, _, _, _, _, _, _, rfl⟩ := h; rfl) | (obtain ⟨_, _, _, _, _, _, _, _, _, rfl⟩ := h; rfl) | (obtain ⟨_, _, _, _, _, _, _, _, _, _, rfl⟩ := h; rfl) | (obtain ⟨_, _, _, _, _, _, _, _, _, _, _, rfl⟩ := h; rfl) | (obtain ⟨_, _, _, _, _, _, _, _, _, _, _, _, rfl⟩ := h; rfl) | (obtain ⟨_, _, _, _, _, _, _, _, _, _, _, _, _, rfl⟩ := h; rfl))) (fun _ _ _ _ _ _ us hl => match us, hl with | [_], _ => rfl) (fun f cdv A0 outer s H vs Q E hr h => ⟨_, (pss_one (ps_ret (pe_cmpR op_eq (pe_get (ks := kCave) (i := 3) T.cCave T.nCave_standing (by decide +kernel) (pe_mth0 (ks := kGame) T.cGame (by decide +kernel) (m_Game_now T) (hr.mono (by decide)) pass0 (pv 0))) (pe_gi T.i_GOES_ON) (nomark _)))), ?_⟩)
  obtain ⟨g, m, rfl, hR, ok, k⟩ := h
  obtain ⟨as, ⟨dx, cl, pl, h1, h2, h3⟩, hC⟩ := id hR
  refine ⟨_, rfl, _, _, _, rfl, h1, g, m, rfl, hR, ok, fun as' a _ _ ⟨da, ca, h4, h5⟩ => ⟨_, _, _, _, rfl, h4, rfl, rfl, q_of (Q := Q) k (congrArg V.bl (vint_dec m.now.st 0))⟩⟩
theorem m_Game_stood (T : Txt K mg A) : MethOk P w K mg base CX0 2 A.game "stood" ["self", "many"] (spStood A) := by
  refine T.d_Game_stood.ok (N := ["self", "many", "cave"]) sc_Game_stood (fun vs H Q E h => (by first | (obtain ⟨rfl, _⟩ := h; rfl) | (obtain ⟨_, rfl, _⟩ := h; rfl) | (obtain ⟨_, _, rfl, _⟩ := h; rfl) | (obtain ⟨_, _, _, rfl, _⟩ := h; rfl) | (obtain ⟨_, _, _, _, rfl, _⟩ := h; rfl) | (obtain ⟨_, _, _, _, _, rfl, _⟩ := h; rfl) | (obtain ⟨_, _, _, _, _, _, rfl, _⟩ := h; rfl) | (obtain ⟨_, _, _, _, _, _, _, rfl, _⟩ := h; rfl) | (obtain ⟨_, _, _, _, _, _, _, _, rfl, _⟩ := h; rfl) | (obtain ⟨_, _, _, _, _, _, _, _, _, rfl, _⟩ := h; rfl) | (obtain ⟨_, _, _, _, _, _, _, _, _, _, rfl, _⟩ := h; rfl) | (obtain ⟨_, _, _, _, _, _, _, _, _, _, _, rfl, _⟩ := h; rfl) | (obtain ⟨_, _, _, _, _, _, _, _, _, _, _, _, rfl, _⟩ := h; rfl) | (obtain ⟨_, _, _, _, _, _, _, _, _, _, _, _, _, rfl, _⟩ := h; rfl) | (obtain ⟨rfl⟩ := h; rfl) | (obtain ⟨_, rfl⟩ := h; rfl) | (obtain ⟨_, _, rfl⟩ := h; rfl) | (obtain ⟨_, _, _, rfl⟩ := h; rfl) | (obtain ⟨_, _, _, _, rfl⟩ := h; rfl) | (obtain ⟨_, _, _, _, _, rfl⟩ := h; rfl) | (obtain ⟨_, _, _, _, _, _, rfl⟩ := h; rfl) | (obtain ⟨_, _, _, _, _, _, _, rfl⟩ := h; rfl) | (obtain ⟨_, _, _, _, _, _, _, _, rfl⟩ := h; rfl) | (obtain ⟨_, _, _, _, _, _, _, _, _, rfl⟩ := h; rfl) | (obtain ⟨_, _, _, _, _, _, _, _, _, _, rfl⟩ := h; rfl) | (obtain ⟨_, _, _, _, _, _, _, _, _, _, _, rfl⟩ := h; rfl) | (obtain ⟨_, _, _, _, _, _, _, _, _, _, _, _, rfl⟩ := h; rfl) | (obtain ⟨_, _, _, _, _, _, _, _, _, _, _, _, _, rfl⟩ := h; rfl))) (fun _ _ _ _ _ _ us hl => match us, hl with | [_, _], _ => rfl) (fun f cdv A0 outer s H vs Q E hr h => ⟨_, (pss_cons (ps_set (i := 2) sc_Game_stood.nd rfl (by first | exact Or.inl rfl | exact Or.inr rfl) (pe_ix ix_list (pe_get (ks := kGame) (i := 0) T.cGame T.nGame_caves (by decide +kernel) (pv 0)) (pv 1) (fun _ _ => rfl)))
      (pss_one (ps_ret (pe_lst (pa_cons (pe_get (ks := kCave) (i := 3) T.cCave T.nCave_standing (by decide +kernel) (pv 2)) (pa_cons (pe_get (ks := kCave) (i := 4) T.cCave T.nCave_points (by decide +kernel) (pv 2)) (pa_cons (pv 1) (pa_cons (pe_mth0 (ks := kCave) T.cCave (by decide +kernel) (m_Cave_gems T) (hr.mono (by decide)) pass0 (pv 2)) pa_nil)))))))), ?_⟩)
  obtain ⟨g, m, n, rfl, ⟨as, ⟨dx, cl, pl, h1, h2, h3⟩, hC⟩, ok, hn, k⟩ := h
  obtain ⟨a, ha, da, ca, h4, h5⟩ := hC.get (cave_get ok hn)
  refine ⟨_, rfl, _, _, _, _, rfl, h1, rfl, _, rfl, _, _, _, _, rfl, rfl, SqL.of h2, at_ix (j := n) rfl (vr_get ha), ?_⟩
  refine ⟨_, rfl, _, _, _, _, rfl, h4, rfl, _, rfl, _, _, _, _, rfl, h4, rfl, _, rfl, _, rfl, _, _, _, rfl, h4, a, m.cave n, rfl, ⟨da, ca, h4, h5⟩, (by show 4 ≤ sizeLine; decide), fun p hp => k p hp⟩
theorem m_Game_stands (T : Txt K mg A) : MethOk P w K mg base CX0 3 A.game "stands" ["self"] (spStands A) := by
  refine T.d_Game_stands.ok (N := ["self"]) sc_Game_stands (fun vs H Q E h => (by first | (obtain ⟨rfl, _⟩ := h; rfl) | (obtain ⟨_, rfl, _⟩ := h; rfl) | (obtain ⟨_, _, rfl, _⟩ := h; rfl) | (obtain ⟨_, _, _, rfl, _⟩ := h; rfl) | (obtain ⟨_, _, _, _, rfl, _⟩ := h; rfl) | (obtain ⟨_, _, _, _, _, rfl, _⟩ := h; rfl) | (obtain ⟨_, _, _, _, _, _, rfl, _⟩ := h; rfl) | (obtain ⟨_, _, _, _, _, _, _, rfl, _⟩ := h; rfl) | (obtain ⟨_, _, _, _, _, _, _, _, rfl, _⟩ := h; rfl) | (obtain ⟨_, _, _, _, _, _, _, _, _, rfl, _⟩ := h; rfl) | (obtain ⟨_, _, _, _, _, _, _, _, _, _, rfl, _⟩ := h; rfl) | (obtain ⟨_, _, _, _, _, _, _, _, _, _, _, rfl, _⟩ := h; rfl) | (obtain ⟨_, _, _, _, _, _, _, _, _, _, _, _, rfl, _⟩ := h; rfl) | (obtain ⟨_, _, _, _, _, _, _, _, _, _, _, _, _, rfl, _⟩ := h; rfl) | (obtain ⟨rfl⟩ := h; rfl) | (obtain ⟨_, rfl⟩ := h; rfl) | (obtain ⟨_, _, rfl⟩ := h; rfl) | (obtain ⟨_, _, _, rfl⟩ := h; rfl) | (obtain ⟨_, _, _, _, rfl⟩ := h; rfl) | (obtain ⟨_, _, _, _, _, rfl⟩ := h; rfl) | (obtain ⟨_, _, _, _, _, _, rfl⟩ := h; rfl) | (obtain ⟨_, _, _, _, _, _, _, rfl⟩ := h; rfl) | (obtain ⟨_, _, _, _, _, _, _, _, rfl⟩ := h; rfl) | (obtain ⟨_, _, _, _, _, _, _, _, _, rfl⟩ := h; rfl) | (obtain ⟨_, _, _, _, _, _, _, _, _, _, rfl⟩ := h; rfl) | (obtain ⟨_, _, _, _, _, _, _, _, _, _, _, rfl⟩ := h; rfl) | (obtain ⟨_, _, _, _, _, _, _, _, _, _, _, _, rfl⟩ := h; rfl) | (obtain ⟨_, _, _, _, _, _, _, _, _, _, _, _, _, rfl⟩ := h; rfl))) (fun _ _ _ _ _ _ us hl => match us, hl with | [_], _ => rfl) (fun f cdv A0 outer s H vs Q E hr h => ⟨_, (pss_one (ps_ret (pe_mth (ks := kGame) T.cGame (by decide +kernel) (m_Game_stood T) (hr.mono (by decide)) pass0 (pv 0) (pa_cons (pe_mth0 (ks := kGame) T.cGame (by decide +kernel) (m_Game_many T) (hr.mono (by decide)) pass0 (pv 0)) pa_nil)))), ?_⟩)
  obtain ⟨g, m, rfl, hR, ok, k⟩ := h
  obtain ⟨as, ⟨dx, cl, pl, h1, h2, h3⟩, hC⟩ := id hR
  exact ⟨_, rfl, _, _, _, rfl, h1, _, rfl, _, _, _, rfl, h1, g, m, rfl, hR, g, m, m.keys.length, rfl, hR, ok, Nat.le_refl _, k⟩
theorem m_Game_many_due (T : Txt K mg A) : MethOk P w K mg base CX0 1 A.game "many_due" ["self", "parts"] (spDue A) := by
  refine T.d_Game_many_due.ok (N := ["self", "parts"]) sc_Game_many_due (fun vs H Q E h => (by first | (obtain ⟨rfl, _⟩ := h; rfl) | (obtain ⟨_, rfl, _⟩ := h; rfl) | (obtain ⟨_, _, rfl, _⟩ := h; rfl) | (obtain ⟨_, _, _, rfl, _⟩ := h; rfl) | (obtain ⟨_, _, _, _, rfl, _⟩ := h; rfl) | (obtain ⟨_, _, _, _, _, rfl, _⟩ := h; rfl) | (obtain ⟨_, _, _, _, _, _, rfl, _⟩ := h; rfl) | (obtain ⟨_, _, _, _, _, _, _, rfl, _⟩ := h; rfl) | (obtain ⟨_, _, _, _, _, _, _, _, rfl, _⟩ := h; rfl) | (obtain ⟨_, _, _, _, _, _, _, _, _, rfl, _⟩ := h; rfl) | (obtain ⟨_, _, _, _, _, _, _, _, _, _, rfl, _⟩ := h; rfl) | (obtain ⟨_, _, _, _, _, _, _, _, _, _, _, rfl, _⟩ := h; rfl) | (obtain ⟨_, _, _, _, _, _, _, _, _, _, _, _, rfl, _⟩ := h; rfl) | (obtain ⟨_, _, _, _, _, _, _, _, _, _, _, _, _, rfl, _⟩ := h; rfl) | (obtain ⟨rfl⟩ := h; rfl) | (obtain ⟨_, rfl⟩ := h; rfl) | (obtain ⟨_, _, rfl⟩ := h; rfl) | (obtain ⟨_, _, _, rfl⟩ := h; rfl) | (obtain ⟨_, _, _, _, rfl⟩ := h; rfl) | (obtain ⟨_, _, _, _, _, rfl⟩ := h; rfl) | (obtain ⟨_, _, _, _, _, _, rfl⟩ := h; rfl) | (obtain ⟨_, _, _, _, _, _, _, rfl⟩ := h; rfl) | (obtain ⟨_, _, _, _, _, _, _, _, rfl⟩ := h; rfl) | (obtain ⟨_, _, _, _, _, _, _, _, _, rfl⟩ := h; rfl) | (obtain ⟨_, _, _, _, _, _, _, _, _, _, rfl⟩ := h; rfl) | (obtain ⟨_, _, _, _, _, _, _, _, _, _, _, rfl⟩ := h; rfl) | (obtain ⟨_, _, _, _, _, _, _, _, _, _, _, _, rfl⟩ := h; rfl) | (obtain ⟨_, _, _, _, _, _, _, _, _, _, _, _, _, rfl⟩ := h; rfl))) (fun _ _ _ _ _ _ us hl => match us, hl with | [_, _], _ => rfl) (fun f cdv A0 outer s H vs Q E hr h => ⟨_, (pss_one (ps_ret (pe_op op_fdiv (pe_op op_add (pe_get (ks := kGame) (i := 2) T.cGame T.nGame_left (by decide +kernel) (pv 0)) (pv 1)) (pe_get (ks := kGame) (i := 3) T.cGame T.nGame_length (by decide +kernel) (pv 0))))), ?_⟩)
  obtain ⟨g, m, n, rfl, ⟨as, ⟨dx, cl, pl, h1, h2, h3⟩, hC⟩, ok, k⟩ := h
  have hl := ok.hl
  refine ⟨_, rfl, _, _, _, _, rfl, h1, rfl, _, rfl, _, _, rfl, rfl, _, rfl, _, _, _, _, rfl, h1, rfl, _, _, rfl, rfl, ⟨by omega, by omega⟩, q_of (Q := Q) k (congrArg V.int ?_)⟩
  unfold GM.due
  rw [Int.natCast_ediv, Int.natCast_add]
end
end SC
/-! SC11: games that change. -/
namespace SC
open PySem PySem.Spec PyProof.Rows L2
theorem GameAt.put {A : Ad} {H : Hp} {own : List Addr} {g cl pl dx : Addr} {m m' : GM} (h : GameAt A H own g cl pl m) (e1 : m'.caves = m.caves) (e2 : m'.keys = m.keys) :
    GameAt A (L2.upd H g (.ins A.game dx (kz kGame (gmF cl pl m')))) own g cl pl m' := by
  obtain ⟨d0, as, h1, h2, h3, h4⟩ := h.ex
  refine ⟨⟨dx, as, upd_same, by rw [upd_ne (Ne.symm h.ngc)]; exact h2, by rw [upd_ne (Ne.symm h.ngp), e2]; exact h3, ?_⟩, fun b z => ?_, h.og, h.oc, h.op, h.ne⟩
  · rw [e1]
    exact h4.mono (hide_same (W := [g]) ((Fr.refl _ _).upd (by simp)) (fun b z => by rw [List.mem_singleton.mp z]; exact h.og) fun b z => .inl z)
  · by_cases c : b = g
    · rw [c]; exact ⟨_, upd_same⟩
    · obtain ⟨o, q⟩ := h.live b z
      exact ⟨o, by rw [upd_ne c]; exact q⟩
theorem now_app {m : GM} (ok : m.Ok) {c : CM} {k : Nat} : ({ m with caves := m.caves ++ [c], keys := m.keys ++ [k] } : GM).now = c := by
  unfold GM.now GM.cave
  show (m.caves ++ [c]).getD (m.keys ++ [k]).length cave0M = c
  rw [List.length_append, List.getD_eq_getElem?_getD, List.getElem?_append_right (by rw [ok.lc]; exact Nat.le_refl _), ok.lc]
  simp
theorem tick_go {m : GM} {k : Nat} (c : m.now.st = 0) : m.tick k = { m with caves := m.caves ++ [tickM m.now k], keys := m.keys ++ [k] } := if_pos c
theorem tick_no {m : GM} {k : Nat} (c : ¬ m.now.st = 0) : m.tick k = m := if_neg c
theorem tick_ok {m : GM} (ok : m.Ok) {k : Nat} (hk : k ≤ 4) (hl : m.now.st = 0 → m.keys.length < 400) : (m.tick k).Ok := by
  by_cases c : m.now.st = 0
  · rw [tick_go c]
    refine ⟨by show (m.caves ++ [tickM m.now k]).length = (m.keys ++ [k]).length + 1; rw [List.length_append, List.length_append, ok.lc]; rfl, fun c' hc => ?_, by show (m.keys ++ [k]).length ≤ 400; rw [List.length_append]; have := hl c; show _ + 1 ≤ 400; omega, fun k' hk' => ?_, ok.h4, ok.hl, ok.lt⟩
    · rcases List.mem_append.mp hc with h | h
      · exact ok.ok _ h
      · rw [List.mem_singleton.mp h]
        exact (tickM_ok (cave_ok ok (Nat.le_refl _)) k).1
    · rcases List.mem_append.mp hk' with h | h
      · exact ok.k4 _ h
      · rw [List.mem_singleton.mp h]; exact hk
  · rw [tick_no c]; exact ok
theorem tick_held (m : GM) (k : Nat) : (m.tick k).held = m.held := by unfold GM.tick; split <;> rfl
theorem ticks_held : ∀ (n : Nat) (m : GM), (GM.ticks n m).held = m.held
  | 0, _ => rfl
  | n + 1, m => (ticks_held n (m.tick m.held)).trans (tick_held m _)
theorem ticks_succ : ∀ (n : Nat) (m : GM), GM.ticks (n + 1) m = (GM.ticks n m).tick m.held
  | 0, _ => rfl
  | n + 1, m => by
    show GM.ticks (n + 1) (m.tick m.held) = (GM.ticks n (m.tick m.held)).tick m.held
    rw [ticks_succ n, tick_held]
/-- along ticks: well-formed, few enough, over once over -/
theorem ticks_ok {m : GM} (ok : m.Ok) {n : Nat} (hn : m.now.st = 0 → m.keys.length + n ≤ 400) : ∀ i, i ≤ n → (GM.ticks i m).Ok ∧ (GM.ticks i m).keys.length ≤ m.keys.length + i ∧ ((GM.ticks i m).now.st = 0 → m.now.st = 0)
  | 0, _ => ⟨ok, Nat.le_refl _, fun h => h⟩
  | i + 1, hi => by
    obtain ⟨h1, h2, h3⟩ := ticks_ok ok hn i (Nat.le_of_succ_le hi)
    rw [ticks_succ]
    refine ⟨tick_ok h1 ok.h4 fun c => by have := hn (h3 c); omega, ?_, fun c => ?_⟩
    · by_cases c : (GM.ticks i m).now.st = 0
      · rw [tick_go c]; show ((GM.ticks i m).keys ++ [m.held]).length ≤ _; rw [List.length_append]; exact Nat.succ_le_succ h2
      · rw [tick_no c]; omega
    · by_cases c' : (GM.ticks i m).now.st = 0
      · exact h3 c'
      · rw [tick_no c'] at c; exact absurd c c'
theorem frame_ok {m : GM} (ok : m.Ok) {parts : Nat} : ({ m with left := (m.left + parts) % m.length } : GM).Ok :=
  ⟨ok.lc, ok.ok, ok.lk, ok.k4, ok.h4, ok.hl, Nat.mod_lt _ ok.hl.1⟩
theorem cut_take (l : List V) (n : Nat) : cutV l none (some (n : Int)) = l.take n := by
  unfold cutV
  rw [HT.sIx_none, HT.sIx_nat, List.drop_zero, Nat.sub_zero]
  rcases Nat.le_total n l.length with h | h
  · rw [Nat.min_eq_left h]
  · rw [Nat.min_eq_right h, List.take_of_length_le (Nat.le_refl _), List.take_of_length_le h]
section
variable {P : Program} {w : World} {K : PySem.W.Frag} {mg : Str → Option Value} {base : Heap} {A : Ad}
theorem m_Game_tick (T : Txt K mg A) : MethOk P w K mg base CX0 8 A.game "tick" ["self", "key"] (spGTick A) := by
  refine T.d_Game_tick.ok (N := ["self", "key"]) sc_Game_tick (fun vs H Q E h => (by first | (obtain ⟨rfl, _⟩ := h; rfl) | (obtain ⟨_, rfl, _⟩ := h; rfl) | (obtain ⟨_, _, rfl, _⟩ := h; rfl) | (obtain ⟨_, _, _, rfl, _⟩ := h; rfl) | (obtain ⟨_, _, _, _, rfl, _⟩ := h; rfl) | (obtain ⟨_, _, _, _, _, rfl, _⟩ := h; rfl) | (obtain ⟨_, _, _, _, _, _, rfl, _⟩ := h; rfl) | (obtain ⟨_, _, _, _, _, _, _, rfl, _⟩ := h; rfl) | (obtain ⟨_, _, _, _, _, _, _, _, rfl, _⟩ := h; rfl) | (obtain ⟨_, _, _, _, _, _, _, _, _, rfl, _⟩ := h; rfl) | (obtain ⟨_, _, _, _, _, _, _, _, _, _, rfl, _⟩ := h; rfl) | (obtain ⟨_, _, _, _, _, _, _, _, _, _, _, rfl, _⟩ := h; rfl) | (obtain ⟨_, _, _, _, _, _, _, _, _, _, _, _, rfl, _⟩ := h; rfl) | (obtain ⟨_, _, _, _, _, _, _, _, _, _, _, _, _, rfl, _⟩ := h; rfl) | (obtain ⟨rfl⟩ := h; rfl) | (obtain ⟨_, rfl⟩ := h; rfl) | (obtain ⟨_, _, rfl⟩ := h; rfl) | (obtain ⟨_, _, _, rfl⟩ := h; rfl) | (obtain ⟨_, _, _, _, rfl⟩ := h; rfl) | (obtain ⟨_, _, _, _, _, rfl⟩ := h; rfl) | (obtain ⟨_, _, _, _, _, _, rfl⟩ := h; rfl) | (obtain ⟨_, _, _, _, _, _, _, rfl⟩ := h; rfl) | (obtain ⟨_, _, _, _, _, _, _, _, rfl⟩ := h; rfl) | (obtain ⟨_, _, _, _, _, _, _, _, _, rfl⟩ := h; rfl) | (obtain ⟨_, _, _, _, _, _, _, _, _, _, rfl⟩ := h; rfl) | (obtain ⟨_, _, _, _, _, _, _, _, _, _, _, rfl⟩ := h; rfl) | (obtain ⟨_, _, _, _, _, _, _, _, _, _, _, _, rfl⟩ := h; rfl) | (obtain ⟨_, _, _, _, _, _, _, _, _, _, _, _, _, rfl⟩ := h; rfl))) (fun _ _ _ _ _ _ us hl => match us, hl with | [_, _], _ => rfl) (fun f cdv A0 outer s H vs Q E hr h => ⟨_, (pss_one (ps_if (pt_val (pe_mth0 (ks := kGame) T.cGame (by decide +kernel) (m_Game_goes_on T) (hr.mono (by decide)) pass0 (pv 0))) (pss_cons (ps_expr (pe_bm PySem.F.plainAttrs_list PySem.F.slot_list_append PySem.F.type_list_append mt_append (pe_get (ks := kGame) (i := 0) T.cGame T.nGame_caves (by decide +kernel) (pv 0)) (pa_cons (pe_cal (g_ticked T) (hr.mono (by decide)) pass0 (pa_cons (pe_mth0 (ks := kGame) T.cGame (by decide +kernel) (m_Game_now T) (hr.mono (by decide)) pass0 (pv 0)) (pa_cons (pv 1) pa_nil))) pa_nil)))
      (pss_one (ps_expr (pe_bm PySem.F.plainAttrs_list PySem.F.slot_list_append PySem.F.type_list_append mt_append (pe_get (ks := kGame) (i := 1) T.cGame T.nGame_pressed (by decide +kernel) (pv 0)) (pa_cons (pv 1) pa_nil))))) pss_nil)), ?_⟩)
  obtain ⟨own, g, cl, pl, m, key, rfl, hG, ok, hkey, hfew, k⟩ := h
  have hR := hG.r
  obtain ⟨dx, as, h1, h2, h3, h4⟩ := id hG.ex
  refine ⟨_, rfl, _, _, _, rfl, h1, g, m, rfl, hR, ok, _, rfl, ?_⟩
  refine if_d (fun c => ?_) fun c => ?_
  · have la : as.length = m.keys.length + 1 := by rw [h4.len, ok.lc]
    have lk := hfew c
    refine ⟨_, rfl, _, _, _, _, rfl, h1, rfl, .inl ⟨rfl, _, SqL.of h2⟩, ?_⟩
    refine ⟨_, rfl, _, _, _, rfl, h1, g, m, rfl, hR, ok, fun as' a _ _ hca => ⟨_, rfl, a, m.now, key, rfl, hca, cave_ok ok (Nat.le_refl _), hkey, fun H1 p hN => ⟨cl, _, _, rfl, rfl, hN.same _ _ h2, small1000 (by rw [vr_len]; omega), ?_⟩⟩⟩
    obtain ⟨dp, ca, n1, n2, n3, n4⟩ := hN.at_
    have fresh : ∀ b, H b = none → b ∉ own := fun b q z => by
      obtain ⟨o, w⟩ := hG.live b z
      rw [w] at q; cases q
    have npc : p ≠ cl := fun e => fresh p n3 (e ▸ hG.oc)
    have nac : ca ≠ cl := fun e => fresh ca n4 (e ▸ hG.oc)
    have npp : p ≠ pl := fun e => fresh p n3 (e ▸ hG.op)
    have nap : ca ≠ pl := fun e => fresh ca n4 (e ▸ hG.op)
    have x1 : upd H1 cl (.lst (vr as ++ [.ref p])) g = some (.ins A.game dx (kz kGame (gmF cl pl m))) := by rw [upd_ne hG.ngc]; exact hN.same _ _ h1
    have x3 : upd H1 cl (.lst (vr as ++ [.ref p])) pl = some (.lst (vi m.keys)) := by rw [upd_ne (Ne.symm hG.ne)]; exact hN.same _ _ h3
    refine ⟨_, rfl, _, _, _, _, rfl, x1, rfl, .inl ⟨rfl, _, SqL.of x3⟩, _, rfl, pl, _, _, rfl, rfl, x3, small1000 (by rw [vi_len]; omega), ?_⟩
    have f1 : Fr [g, cl, pl] H (upd (upd H1 cl (.lst (vr as ++ [.ref p]))) pl (.lst (vi m.keys ++ [.int (key : Nat)]))) := ((Fr.same hN.same).upd (by simp)).upd (by simp)
    refine k _ ?_ f1
    rw [tick_go c]
    refine ⟨⟨dx, as ++ [p], ?_, ?_, ?_, ?_⟩, fun b z => ?_, hG.og, hG.oc, hG.op, hG.ne⟩
    · rw [upd_ne hG.ngp, upd_ne hG.ngc]; exact hN.same _ _ h1
    · rw [upd_ne hG.ne, upd_same, vr_app]; rfl
    · rw [upd_same, vi_app]; rfl
    · refine CavesL.snoc (h4.mono (hide_same f1 hG.sub fun b z => .inl z)) ⟨dp, ca, hide_some.mpr ⟨fresh p n3, ?_⟩, hide_some.mpr ⟨fresh ca n4, ?_⟩⟩
      · rw [upd_ne npp, upd_ne npc]; exact n1
      · rw [upd_ne nap, upd_ne nac]; exact n2
    · by_cases e1 : b = pl
      · rw [e1]; exact ⟨_, upd_same⟩
      · by_cases e2 : b = cl
        · rw [e2]; exact ⟨_, by rw [upd_ne hG.ne]; exact upd_same⟩
        · obtain ⟨o, q⟩ := hG.live b z
          exact ⟨o, by rw [upd_ne e1, upd_ne e2]; exact hN.same _ _ q⟩
  · exact k H (by rw [tick_no c]; exact hG) (Fr.refl _ _)
theorem m_Game_frame (T : Txt K mg A) : MethOk P w K mg base CX0 9 A.game "frame" ["self", "parts"] (spGFrame A) := by
  refine T.d_Game_frame.ok (N := ["self", "parts", "many", "turn"]) sc_Game_frame (fun vs H Q E h => (by first | (obtain ⟨rfl, _⟩ := h; rfl) | (obtain ⟨_, rfl, _⟩ := h; rfl) | (obtain ⟨_, _, rfl, _⟩ := h; rfl) | (obtain ⟨_, _, _, rfl, _⟩ := h; rfl) | (obtain ⟨_, _, _, _, rfl, _⟩ := h; rfl) | (obtain ⟨_, _, _, _, _, rfl, _⟩ := h; rfl) | (obtain ⟨_, _, _, _, _, _, rfl, _⟩ := h; rfl) | (obtain ⟨_, _, _, _, _, _, _, rfl, _⟩ := h; rfl) | (obtain ⟨_, _, _, _, _, _, _, _, rfl, _⟩ := h; rfl) | (obtain ⟨_, _, _, _, _, _, _, _, _, rfl, _⟩ := h; rfl) | (obtain ⟨_, _, _, _, _, _, _, _, _, _, rfl, _⟩ := h; rfl) | (obtain ⟨_, _, _, _, _, _, _, _, _, _, _, rfl, _⟩ := h; rfl) | (obtain ⟨_, _, _, _, _, _, _, _, _, _, _, _, rfl, _⟩ := h; rfl) | (obtain ⟨_, _, _, _, _, _, _, _, _, _, _, _, _, rfl, _⟩ := h; rfl) | (obtain ⟨rfl⟩ := h; rfl) | (obtain ⟨_, rfl⟩ := h; rfl) | (obtain ⟨_, _, rfl⟩ := h; rfl) | (obtain ⟨_, _, _, rfl⟩ := h; rfl) | (obtain ⟨_, _, _, _, rfl⟩ := h; rfl) | (obtain ⟨_, _, _, _, _, rfl⟩ := h; rfl) | (obtain ⟨_, _, _, _, _, _, rfl⟩ := h; rfl) | (obtain ⟨_, _, _, _, _, _, _, rfl⟩ := h; rfl) | (obtain ⟨_, _, _, _, _, _, _, _, rfl⟩ := h; rfl) | (obtain ⟨_, _, _, _, _, _, _, _, _, rfl⟩ := h; rfl) | (obtain ⟨_, _, _, _, _, _, _, _, _, _, rfl⟩ := h; rfl) | (obtain ⟨_, _, _, _, _, _, _, _, _, _, _, rfl⟩ := h; rfl) | (obtain ⟨_, _, _, _, _, _, _, _, _, _, _, _, rfl⟩ := h; rfl) | (obtain ⟨_, _, _, _, _, _, _, _, _, _, _, _, _, rfl⟩ := h; rfl))) (fun _ _ _ _ _ _ us hl => match us, hl with | [_, _], _ => rfl) (fun f cdv A0 outer s H vs Q E hr h => ⟨_, (pss_cons (ps_set (i := 2) sc_Game_frame.nd rfl (by first | exact Or.inl rfl | exact Or.inr rfl) (pe_mth (ks := kGame) T.cGame (by decide +kernel) (m_Game_many_due T) (hr.mono (by decide)) pass0 (pv 0) (pa_cons (pv 1) pa_nil)))
      (pss_cons (ps_put (ks := kGame) (i := 2) T.cGame T.nGame_left (by decide +kernel) (by decide) (pv 0) (pe_op op_mod (pe_op op_add (pe_get (ks := kGame) (i := 2) T.cGame T.nGame_left (by decide +kernel) (pv 0)) (pv 1)) (pe_get (ks := kGame) (i := 3) T.cGame T.nGame_length (by decide +kernel) (pv 0))) rfl)
      (pss_one (ps_for PassesOwn.never rfl (pi_range1 rfl T.b_range (pa_cons (pv 2) pa_nil)) (pg_name (i := 3) sc_Game_frame.nd rfl (by first | exact Or.inl rfl | exact Or.inr rfl)) (pss_one (ps_expr (pe_mth (ks := kGame) T.cGame (by decide +kernel) (m_Game_tick T) (hr.mono (by decide)) pass0 (pv 0) (pa_cons (pe_get (ks := kGame) (i := 4) T.cGame T.nGame_held (by decide +kernel) (pv 0)) pa_nil)))))))), ?_⟩)
  obtain ⟨own, g, cl, pl, m, parts, rfl, hG, ok, hp, hfew, k⟩ := h
  obtain ⟨dx, as, h1, h2, h3, h4⟩ := id hG.ex
  have hl := ok.hl
  have hlt := ok.lt
  refine ⟨_, rfl, _, _, _, rfl, h1, _, rfl, g, m, parts, rfl, hG.r, ok, ?_⟩
  refine ⟨_, rfl, _, _, _, _, rfl, h1, rfl, _, rfl, _, _, rfl, rfl, _, rfl, _, _, _, _, rfl, h1, rfl, _, _, rfl, rfl, (by omega), _, rfl, _, _, _, rfl, h1, (by show 2 < 5; decide), ?_⟩
  have hG1 := hG.put (dx := dx) (m' := { m with left := (m.left + parts) % m.length }) rfl rfl
  have f1 : Fr [g, cl, pl] H (upd H g (.ins A.game dx (kz kGame (gmF cl pl { m with left := (m.left + parts) % m.length })))) := (Fr.refl _ _).upd (by simp)
  have ev : ((m.left : Int) + parts) % m.length = (((m.left + parts) % m.length : Nat) : Int) := by rw [Int.natCast_emod, Int.natCast_add]
  have hd : m.due parts ≤ 1100 := Nat.le_trans (Nat.div_le_self _ _) (by omega)
  have e3 : gmF cl pl { m with left := (m.left + parts) % m.length } = (gmF cl pl m).set 2 (.int (((m.left : Int) + parts) % m.length)) := by rw [ev]; rfl
  rw [e3] at hG1 f1
  generalize hU : upd H g _ = H1
  replace hG1 : GameAt A H1 own g cl pl { m with left := (m.left + parts) % m.length } := by rw [← hU]; exact hG1
  replace f1 : Fr [g, cl, pl] H H1 := by rw [← hU]; exact f1
  clear hU
  have ok1 : ({ m with left := (m.left + parts) % m.length } : GM).Ok := frame_ok ok
  have hfew1 : ({ m with left := (m.left + parts) % m.length } : GM).now.st = 0 → ({ m with left := (m.left + parts) % m.length } : GM).keys.length + m.due parts ≤ 400 := hfew
  have hfr : m.frame parts = GM.ticks (m.due parts) { m with left := (m.left + parts) % m.length } := rfl
  generalize ({ m with left := (m.left + parts) % m.length } : GM) = m1 at hG1 ok1 hfew1 hfr
  refine ⟨_, rfl, _, rfl, by omega, by omega, ?_⟩
  rw [Int.toNat_natCast]
  refine for_range (n := m.due parts) (fun i σ H' => ∃ o, σ = [some (.ref g), some (.int (parts : Nat)), some (.int (m.due parts : Nat)), o] ∧ GameAt A H' own g cl pl (GM.ticks i m1) ∧ Fr [g, cl, pl] H H')
    ⟨none, rfl, hG1, f1⟩ ?_ ?_
  · rintro i σ H2 hi ⟨o, rfl, hG2, f2⟩
    obtain ⟨q1, q2, q3⟩ := ticks_ok ok1 hfew1 i (Nat.le_of_lt hi)
    obtain ⟨d2, as2, k1, _⟩ := hG2.ex
    rw [ticks_succ, ← ticks_held i m1]
    refine ⟨_, rfl, _, _, _, rfl, k1, _, rfl, _, _, _, _, rfl, k1, rfl, ?_⟩
    exact ⟨own, g, cl, pl, GM.ticks i m1, (GM.ticks i m1).held, rfl, hG2, q1, q1.h4, fun c => by have := hfew1 (q3 c); omega, fun H3 hG3 f3 => ⟨_, rfl, hG3, f2.trans f3⟩⟩
  · rintro σ H2 ⟨o, rfl, hG2, f2⟩
    exact k H2 (by rw [hfr]; exact hG2) f2
theorem m_Game_take_length (T : Txt K mg A) : MethOk P w K mg base CX0 1 A.game "take_length" ["self", "length"] (spTakeLen A) := by
  refine T.d_Game_take_length.ok (N := ["self", "length"]) sc_Game_take_length (fun vs H Q E h => (by first | (obtain ⟨rfl, _⟩ := h; rfl) | (obtain ⟨_, rfl, _⟩ := h; rfl) | (obtain ⟨_, _, rfl, _⟩ := h; rfl) | (obtain ⟨_, _, _, rfl, _⟩ := h; rfl) | (obtain ⟨_, _, _, _, rfl, _⟩ := h; rfl) | (obtain ⟨_, _, _, _, _, rfl, _⟩ := h; rfl) | (obtain ⟨_, _, _, _, _, _, rfl, _⟩ := h; rfl) | (obtain ⟨_, _, _, _, _, _, _, rfl, _⟩ := h; rfl) | (obtain ⟨_, _, _, _, _, _, _, _, rfl, _⟩ := h; rfl) | (obtain ⟨_, _, _, _, _, _, _, _, _, rfl, _⟩ := h; rfl) | (obtain ⟨_, _, _, _, _, _, _, _, _, _, rfl, _⟩ := h; rfl) | (obtain ⟨_, _, _, _, _, _, _, _, _, _, _, rfl, _⟩ := h; rfl) | (obtain ⟨_, _, _, _, _, _, _, _, _, _, _, _, rfl, _⟩ := h; rfl) | (obtain ⟨_, _, _, _, _, _, _, _, _, _, _, _, _, rfl, _⟩ := h; rfl) | (obtain ⟨rfl⟩ := h; rfl) | (obtain ⟨_, rfl⟩ := h; rfl) | (obtain ⟨_, _, rfl⟩ := h; rfl) | (obtain ⟨_, _, _, rfl⟩ := h; rfl) | (obtain ⟨_, _, _, _, rfl⟩ := h; rfl) | (obtain ⟨_, _, _, _, _, rfl⟩ := h; rfl) | (obtain ⟨_, _, _, _, _, _, rfl⟩ := h; rfl) | (obtain ⟨_, _, _, _, _, _, _, rfl⟩ := h; rfl) | (obtain ⟨_, _, _, _, _, _, _, _, rfl⟩ := h; rfl) | (obtain ⟨_, _, _, _, _, _, _, _, _, rfl⟩ := h; rfl) | (obtain ⟨_, _, _, _, _, _, _, _, _, _, rfl⟩ := h; rfl) | (obtain ⟨_, _, _, _, _, _, _, _, _, _, _, rfl⟩ := h; rfl) | (obtain ⟨_, _, _, _, _, _, _, _, _, _, _, _, rfl⟩ := h; rfl) | (obtain ⟨_, _, _, _, _, _, _, _, _, _, _, _, _, rfl⟩ := h; rfl))) (fun _ _ _ _ _ _ us hl => match us, hl with | [_, _], _ => rfl) (fun f cdv A0 outer s H vs Q E hr h => ⟨_, (pss_cons (ps_put (ks := kGame) (i := 3) T.cGame T.nGame_length (by decide +kernel) (by decide) (pv 0) (pv 1) rfl)
      (pss_one (ps_put (ks := kGame) (i := 2) T.cGame T.nGame_left (by decide +kernel) (by decide) (pv 0) (pe_callB (call_min2 rfl) (by rfl) T.b_min (by decide +kernel) (pa_cons (pe_get (ks := kGame) (i := 2) T.cGame T.nGame_left (by decide +kernel) (pv 0)) (pa_cons (pe_op op_sub (pv 1) pe_int) pa_nil))) rfl))), ?_⟩)
  obtain ⟨own, g, cl, pl, m, l, rfl, hG, hl, k⟩ := h
  obtain ⟨dx, as, h1, h2, h3, h4⟩ := id hG.ex
  refine ⟨_, rfl, _, rfl, _, _, _, rfl, h1, (by show 3 < 5; decide), ?_⟩
  refine ⟨_, rfl, _, _, _, _, rfl, upd_same, rfl, _, rfl, _, _, rfl, rfl, _, _, rfl, _, rfl, _, _, _, rfl, upd_same, (by show 2 < 5; decide), ?_⟩
  rw [upd_upd]
  have ev : (if (l : Int) - 1 < m.left then (l : Int) - 1 else m.left) = ((min m.left (l - 1) : Nat) : Int) := by split <;> omega
  have hG1 := hG.put (dx := dx) (m' := m.takeLen l) rfl rfl
  have z := k _ hG1 ((Fr.refl _ _).upd (by simp))
  have e2 : gmF cl pl (m.takeLen l) = [.ref cl, .ref pl, .int (if (l : Int) - 1 < m.left then (l : Int) - 1 else m.left), .int l, .int m.held] := by rw [ev]; rfl
  rw [e2] at z
  exact z
theorem m_Game_back (T : Txt K mg A) : MethOk P w K mg base CX0 1 A.game "back" ["self", "many"] (spGBack A) := by
  refine T.d_Game_back.ok (N := ["self", "many"]) sc_Game_back (fun vs H Q E h => (by first | (obtain ⟨rfl, _⟩ := h; rfl) | (obtain ⟨_, rfl, _⟩ := h; rfl) | (obtain ⟨_, _, rfl, _⟩ := h; rfl) | (obtain ⟨_, _, _, rfl, _⟩ := h; rfl) | (obtain ⟨_, _, _, _, rfl, _⟩ := h; rfl) | (obtain ⟨_, _, _, _, _, rfl, _⟩ := h; rfl) | (obtain ⟨_, _, _, _, _, _, rfl, _⟩ := h; rfl) | (obtain ⟨_, _, _, _, _, _, _, rfl, _⟩ := h; rfl) | (obtain ⟨_, _, _, _, _, _, _, _, rfl, _⟩ := h; rfl) | (obtain ⟨_, _, _, _, _, _, _, _, _, rfl, _⟩ := h; rfl) | (obtain ⟨_, _, _, _, _, _, _, _, _, _, rfl, _⟩ := h; rfl) | (obtain ⟨_, _, _, _, _, _, _, _, _, _, _, rfl, _⟩ := h; rfl) | (obtain ⟨_, _, _, _, _, _, _, _, _, _, _, _, rfl, _⟩ := h; rfl) | (obtain ⟨_, _, _, _, _, _, _, _, _, _, _, _, _, rfl, _⟩ := h; rfl) | (obtain ⟨rfl⟩ := h; rfl) | (obtain ⟨_, rfl⟩ := h; rfl) | (obtain ⟨_, _, rfl⟩ := h; rfl) | (obtain ⟨_, _, _, rfl⟩ := h; rfl) | (obtain ⟨_, _, _, _, rfl⟩ := h; rfl) | (obtain ⟨_, _, _, _, _, rfl⟩ := h; rfl) | (obtain ⟨_, _, _, _, _, _, rfl⟩ := h; rfl) | (obtain ⟨_, _, _, _, _, _, _, rfl⟩ := h; rfl) | (obtain ⟨_, _, _, _, _, _, _, _, rfl⟩ := h; rfl) | (obtain ⟨_, _, _, _, _, _, _, _, _, rfl⟩ := h; rfl) | (obtain ⟨_, _, _, _, _, _, _, _, _, _, rfl⟩ := h; rfl) | (obtain ⟨_, _, _, _, _, _, _, _, _, _, _, rfl⟩ := h; rfl) | (obtain ⟨_, _, _, _, _, _, _, _, _, _, _, _, rfl⟩ := h; rfl) | (obtain ⟨_, _, _, _, _, _, _, _, _, _, _, _, _, rfl⟩ := h; rfl))) (fun _ _ _ _ _ _ us hl => match us, hl with | [_, _], _ => rfl) (fun f cdv A0 outer s H vs Q E hr h => ⟨_, (pss_cons (ps_put (ks := kGame) (i := 0) T.cGame T.nGame_caves (by decide +kernel) (by decide) (pv 0) (pe_slice sl_list (pe_get (ks := kGame) (i := 0) T.cGame T.nGame_caves (by decide +kernel) (pv 0)) po_none (po_some (pe_op op_add (pv 1) pe_int))) rfl)
      (pss_cons (ps_put (ks := kGame) (i := 1) T.cGame T.nGame_pressed (by decide +kernel) (by decide) (pv 0) (pe_slice sl_list (pe_get (ks := kGame) (i := 1) T.cGame T.nGame_pressed (by decide +kernel) (pv 0)) po_none (po_some (pv 1))) rfl)
      (pss_one (ps_put (ks := kGame) (i := 2) T.cGame T.nGame_left (by decide +kernel) (by decide) (pv 0) pe_int rfl)))), ?_⟩)
  obtain ⟨own, g, cl, pl, m, n, rfl, hG, ok, hn, k⟩ := h
  obtain ⟨dx, as, h1, h2, h3, h4⟩ := id hG.ex
  have e1 : cutV (vr as) none (some ((n : Int) + 1)) = vr (as.take (n + 1)) := by
    rw [show (n : Int) + 1 = ((n + 1 : Nat) : Int) by omega, cut_take]; unfold vr; rw [List.map_take]
  have e2 : cutV (vi m.keys) none (some (n : Int)) = vi (m.keys.take n) := by rw [cut_take]; unfold vi; rw [List.map_take]
  refine ⟨_, rfl, _, _, _, _, rfl, h1, rfl, _, rfl, _, _, rfl, rfl, _, rfl, _, _, rfl, SqL.of h2, fun c2 hc2 => ?_⟩
  rw [e1]
  refine ⟨_, rfl, _, _, _, rfl, same_new hc2 _ _ h1, (by show 0 < 5; decide), ?_⟩
  have ncg : c2 ≠ g := Ne.symm (ne_of_none h1 hc2)
  generalize hU : upd (upd H c2 _) g _ = H1
  have f1 : Fr [g, cl, pl] H H1 := by rw [← hU]; exact ((Fr.refl _ _).new hc2).upd (by simp)
  have g1 := upd_at hU
  have c1 : H1 c2 = some (.lst (vr (as.take (n + 1)))) := by rw [← hU, upd_ne ncg]; exact upd_same
  have p1 : H1 pl = some (.lst (vi m.keys)) := by rw [← hU, upd_ne (Ne.symm hG.ngp), upd_ne (ne_of_none h3 hc2)]; exact h3
  have fw1 : Fr [g] H H1 := by rw [← hU]; exact ((Fr.refl _ _).new hc2).upd (by simp)
  clear hU
  refine ⟨_, rfl, _, _, _, _, rfl, g1, rfl, _, rfl, _, rfl, _, _, rfl, SqL.of p1, fun p2 hp2 => ?_⟩
  rw [e2]
  refine ⟨_, rfl, _, _, _, rfl, same_new hp2 _ _ g1, (by show 1 < 5; decide), ?_⟩
  have npg : p2 ≠ g := Ne.symm (ne_of_none g1 hp2)
  have ncp : c2 ≠ p2 := ne_of_none c1 hp2
  have hp20 : H p2 = none := by
    cases z : H p2 with
    | none => rfl
    | some o => rw [fw1 _ _ z (by simp [npg])] at hp2; cases hp2
  generalize hU : upd (upd H1 p2 _) g _ = H2
  have f2 : Fr [g, cl, pl] H H2 := by rw [← hU]; exact (f1.new hp2).upd (by simp)
  have fw2 : Fr [g] H H2 := by rw [← hU]; exact (fw1.new hp2).upd (by simp)
  have g2 := upd_at hU
  have c22 : H2 c2 = some (.lst (vr (as.take (n + 1)))) := by rw [← hU, upd_ne ncg, upd_ne ncp]; exact c1
  have p22 : H2 p2 = some (.lst (vi (m.keys.take n))) := by rw [← hU, upd_ne npg]; exact upd_same
  clear hU
  refine ⟨_, rfl, _, _, _, rfl, g2, (by show 2 < 5; decide), ?_⟩
  have fw3 := fw2.upd (a := g) (o := .ins A.game dx (kz kGame (gmF c2 p2 (m.back n)))) (by simp)
  refine k _ c2 p2 ⟨⟨dx, as.take (n + 1), upd_same, by rw [upd_ne ncg]; exact c22, by rw [upd_ne npg]; exact p22, ?_⟩, fun b z => ?_, ?_, ?_, ?_, ncp⟩ hc2 hp20 (f2.upd (by simp))
  · refine (h4.take (n + 1)).mono (hide_same fw3 (fun b z => by rw [List.mem_singleton.mp z]; exact hG.og) fun b z => ?_)
    rcases List.mem_cons.mp z with z | z
    · exact .inr (by rw [z]; exact hc2)
    · rcases List.mem_cons.mp z with z | z
      · exact .inr (by rw [z]; exact hp20)
      · exact .inl z
  · rcases List.mem_cons.mp z with z | z
    · exact ⟨_, by rw [z, upd_ne ncg]; exact c22⟩
    · rcases List.mem_cons.mp z with z | z
      · exact ⟨_, by rw [z, upd_ne npg]; exact p22⟩
      · by_cases e : b = g
        · rw [e]; exact ⟨_, upd_same⟩
        · obtain ⟨o, q⟩ := hG.live b z
          exact ⟨o, fw3 _ _ q (by simp [e])⟩
  · exact List.mem_cons_of_mem _ (List.mem_cons_of_mem _ hG.og)
  · exact List.mem_cons_self ..
  · exact List.mem_cons_of_mem _ (List.mem_cons_self ..)
theorem m_Game_copied (T : Txt K mg A) : MethOk P w K mg base CX0 3 A.game "copied" ["self"] (spCopied A) := by
  refine T.d_Game_copied.ok (N := ["self", "found"]) sc_Game_copied (fun vs H Q E h => (by first | (obtain ⟨rfl, _⟩ := h; rfl) | (obtain ⟨_, rfl, _⟩ := h; rfl) | (obtain ⟨_, _, rfl, _⟩ := h; rfl) | (obtain ⟨_, _, _, rfl, _⟩ := h; rfl) | (obtain ⟨_, _, _, _, rfl, _⟩ := h; rfl) | (obtain ⟨_, _, _, _, _, rfl, _⟩ := h; rfl) | (obtain ⟨_, _, _, _, _, _, rfl, _⟩ := h; rfl) | (obtain ⟨_, _, _, _, _, _, _, rfl, _⟩ := h; rfl) | (obtain ⟨_, _, _, _, _, _, _, _, rfl, _⟩ := h; rfl) | (obtain ⟨_, _, _, _, _, _, _, _, _, rfl, _⟩ := h; rfl) | (obtain ⟨_, _, _, _, _, _, _, _, _, _, rfl, _⟩ := h; rfl) | (obtain ⟨_, _, _, _, _, _, _, _, _, _, _, rfl, _⟩ := h; rfl) | (obtain ⟨_, _, _, _, _, _, _, _, _, _, _, _, rfl, _⟩ := h; rfl) | (obtain ⟨_, _, _, _, _, _, _, _, _, _, _, _, _, rfl, _⟩ := h; rfl) | (obtain ⟨rfl⟩ := h; rfl) | (obtain ⟨_, rfl⟩ := h; rfl) | (obtain ⟨_, _, rfl⟩ := h; rfl) | (obtain ⟨_, _, _, rfl⟩ := h; rfl) | (obtain ⟨_, _, _, _, rfl⟩ := h; rfl) | (obtain ⟨_, _, _, _, _, rfl⟩ := h; rfl) | (obtain ⟨_, _, _, _, _, _, rfl⟩ := h; rfl) | (obtain ⟨_, _, _, _, _, _, _, rfl⟩ := h; rfl) | (obtain ⟨_, _, _, _, _, _, _, _, rfl⟩ := h; rfl) | (obtain ⟨_, _, _, _, _, _, _, _, _, rfl⟩ := h; rfl) | (obtain ⟨_, _, _, _, _, _, _, _, _, _, rfl⟩ := h; rfl) | (obtain ⟨_, _, _, _, _, _, _, _, _, _, _, rfl⟩ := h; rfl) | (obtain ⟨_, _, _, _, _, _, _, _, _, _, _, _, rfl⟩ := h; rfl) | (obtain ⟨_, _, _, _, _, _, _, _, _, _, _, _, _, rfl⟩ := h; rfl))) (fun _ _ _ _ _ _ us hl => match us, hl with | [_], _ => rfl) (fun f cdv A0 outer s H vs Q E hr h => ⟨_, (pss_cons (ps_set (i := 1) sc_Game_copied.nd rfl (by first | exact Or.inl rfl | exact Or.inr rfl) (pe_mak (i_Game T) (hr.mono (by decide)) pass0 (pa_cons (pe_ix ix_list (pe_get (ks := kGame) (i := 0) T.cGame T.nGame_caves (by decide +kernel) (pv 0)) pe_int (fun _ _ => rfl)) (pa_cons (pe_get (ks := kGame) (i := 3) T.cGame T.nGame_length (by decide +kernel) (pv 0)) pa_nil))))
      (pss_cons (ps_put (ks := kGame) (i := 0) T.cGame T.nGame_caves (by decide +kernel) (by decide) (pv 1) (pe_callTy call_list_of (by rfl) T.b_list (by decide +kernel) (pa_cons (pe_get (ks := kGame) (i := 0) T.cGame T.nGame_caves (by decide +kernel) (pv 0)) pa_nil)) rfl)
      (pss_cons (ps_put (ks := kGame) (i := 1) T.cGame T.nGame_pressed (by decide +kernel) (by decide) (pv 1) (pe_callTy call_list_of (by rfl) T.b_list (by decide +kernel) (pa_cons (pe_get (ks := kGame) (i := 1) T.cGame T.nGame_pressed (by decide +kernel) (pv 0)) pa_nil)) rfl)
      (pss_cons (ps_put (ks := kGame) (i := 2) T.cGame T.nGame_left (by decide +kernel) (by decide) (pv 1) (pe_get (ks := kGame) (i := 2) T.cGame T.nGame_left (by decide +kernel) (pv 0)) rfl)
      (pss_cons (ps_put (ks := kGame) (i := 4) T.cGame T.nGame_held (by decide +kernel) (by decide) (pv 1) (pe_get (ks := kGame) (i := 4) T.cGame T.nGame_held (by decide +kernel) (pv 0)) rfl)
      (pss_one (ps_ret (pv 1)))))))), ?_⟩)
  obtain ⟨g, as, m, rfl, ⟨dx, cl, pl, h1, h2, h3⟩, has, k⟩ := h
  obtain ⟨a0, ha0⟩ : ∃ a0, as[0]? = some a0 := by
    cases as with
    | nil => exact absurd rfl has
    | cons x _ => exact ⟨x, rfl⟩
  refine ⟨_, rfl, _, _, _, _, rfl, h1, rfl, _, _, _, _, rfl, rfl, SqL.of h2, at_ix (j := 0) rfl (vr_get ha0), _, rfl, _, _, _, _, rfl, h1, rfl, ?_⟩
  intro x d hx hd nex
  refine ⟨x, d, a0, m.length, rfl, upd_same, fun H1 c0 p0 g1 _ _ f1 _ _ _ => ⟨rfl, ?_⟩⟩
  have sx : Same H (upd (upd H d (.own x)) x (.ins A.game d (kz [] []))) := same_up (same_new hd) hx
  have s1 : Same H H1 := fun b o q => f1 b o (sx b o q) (by
    intro z
    rw [List.mem_singleton.mp z, hx] at q
    cases q)
  have nx : ∀ {b o}, H b = some o → b ≠ x := fun q => ne_of_none q hx
  refine ⟨_, rfl, _, _, _, _, rfl, s1 _ _ h1, rfl, _, _, rfl, .inl (SqL.of (s1 _ _ h2)), fun c2 hc2 => ⟨_, rfl, _, _, _, rfl, same_new hc2 _ _ g1, (by show 0 < 5; decide), ?_⟩⟩
  have ncx : c2 ≠ x := Ne.symm (ne_of_none g1 hc2)
  have hc20 : H c2 = none := by
    cases z : H c2 with
    | none => rfl
    | some o => rw [s1 _ _ z] at hc2; cases hc2
  generalize hU : upd (upd H1 c2 _) x _ = H2
  have s2 : Same H H2 := fun b o q => by rw [← hU, upd_ne (nx q), upd_ne (ne_of_none (s1 _ _ q) hc2)]; exact s1 _ _ q
  have g2 := upd_at hU
  have c22 : H2 c2 = some (.lst (vr as)) := by rw [← hU, upd_ne ncx]; exact upd_same
  clear hU
  refine ⟨_, rfl, _, _, _, _, rfl, s2 _ _ h1, rfl, _, _, rfl, .inl (SqL.of (s2 _ _ h3)), fun p2 hp2 => ⟨_, rfl, _, _, _, rfl, same_new hp2 _ _ g2, (by show 1 < 5; decide), ?_⟩⟩
  have npx : p2 ≠ x := Ne.symm (ne_of_none g2 hp2)
  have ncp : c2 ≠ p2 := ne_of_none c22 hp2
  have hp20 : H p2 = none := by
    cases z : H p2 with
    | none => rfl
    | some o => rw [s2 _ _ z] at hp2; cases hp2
  generalize hU : upd (upd H2 p2 _) x _ = H3
  have s3 : Same H H3 := fun b o q => by rw [← hU, upd_ne (nx q), upd_ne (ne_of_none (s2 _ _ q) hp2)]; exact s2 _ _ q
  have g3 := upd_at hU
  have c33 : H3 c2 = some (.lst (vr as)) := by rw [← hU, upd_ne ncx, upd_ne ncp]; exact c22
  have p33 : H3 p2 = some (.lst (vi m.keys)) := by rw [← hU, upd_ne npx]; exact upd_same
  clear hU
  refine ⟨_, rfl, _, _, _, _, rfl, s3 _ _ h1, rfl, _, rfl, _, _, _, rfl, g3, (by show 2 < 5; decide), ?_⟩
  generalize hU : upd H3 x _ = H4
  have s4 : Same H H4 := fun b o q => by rw [← hU, upd_ne (nx q)]; exact s3 _ _ q
  have g4 := upd_at hU
  have c44 : H4 c2 = some (.lst (vr as)) := by rw [← hU, upd_ne ncx]; exact c33
  have p44 : H4 p2 = some (.lst (vi m.keys)) := by rw [← hU, upd_ne npx]; exact p33
  clear hU
  refine ⟨_, rfl, _, _, _, _, rfl, s4 _ _ h1, rfl, _, rfl, _, _, _, rfl, g4, (by show 4 < 5; decide), ?_⟩
  refine ⟨_, rfl, k _ x ⟨⟨d, c2, p2, upd_same, ?_, ?_, hc20, hp20, ncp⟩, hx, ?_⟩⟩
  · rw [upd_ne ncx]; exact c44
  · rw [upd_ne npx]; exact p44
  · intro b o q
    rw [upd_ne (nx q)]
    exact s4 _ _ q
end
end SC
/-! SC12: a walk of enumerate(zip(a, b)). -/
namespace EZ
open PySem
open Sem (wp)
/-- a zip object, whatever it holds of its tuple -/
abbrev ZObj (h : Heap) (z TI TO : Addr) (f0 : Value) (f1 : Bool) : Prop := h.get? z = some { cls := .type "zip", dict := none, data := .fields #[f0, .bool f1, .bool false, .ref TI, .ref TO], slots := #[] }
/-- its owned tuple: none as yet, or a number -/
def Owned (f0 : Value) (f1 : Bool) : Prop := (f0 = .none ∧ f1 = false) ∨ ∃ n : Int, f0 = .int n 0
/-- its parts -/
structure ZParts (h : Heap) (TI TO i1 i2 l1 l2 : Addr) (k : Nat) : Prop where
  ti : IsPair h TI (.ref i1) (.ref i2)
  to_ : ∃ u v, IsPair h TO u v
  a1 : h.IsListIter i1 l1 k
  a2 : h.IsListIter i2 l2 k
section
variable {prog : Program} {w : World} {A : Around} {E : Value → Shared → Prop} {s : Shared}
theorem alive {a : Addr} {Q : Option Obj → Shared → Prop} (h : Q (s.heap.get? a) s) : wpAny (model prog w) A (loadIfAlive a) Q E s := fun Γ p _ => by
  unfold loadIfAlive
  rw [Sem.wp_loadIfAlive]
  exact h
/-- what a zip's next leaves -/
def ZNext (z TI TO i1 i2 l1 l2 : Addr) (k : Nat) (x y : Value) (h h' : Heap) : Prop := ∃ f0 f1, ZObj h' z TI TO f0 f1 ∧ Owned f0 f1 ∧ ZParts h' TI TO i1 i2 l1 l2 (k + 1) ∧ IsPair h' h.objs.size x y ∧ h'.objs.size = h.objs.size + 1 ∧
  ∀ c o, c ≠ z → c ≠ TO → c ≠ i1 → c ≠ i2 → h.get? c = some o → h'.get? c = some o
theorem next_held {z TI TO i1 i2 l1 l2 : Addr} {k : Nat} {xs ys : Array Value} {x y : Value} {n : Int} {f1 : Bool} {ob : Obj} {Q : Value → Shared → Prop} (D : ZipApart z TI TO i1 i2 l1 l2)
    (hz : ZObj s.heap z TI TO (.int n 0) f1) (zp : ZParts s.heap TI TO i1 i2 l1 l2 k) (hob : s.heap.get? n.toNat = some ob) (hl1 : s.heap.IsList l1 xs) (hl2 : s.heap.IsList l2 ys) (hx : xs[k]? = some x) (hy : ys[k]? = some y)
    (hQ : ∀ h', ZNext z TI TO i1 i2 l1 l2 k x y s.heap h' → Q (.ref s.heap.objs.size) { s with heap := h' }) :
    wpAny (model prog w) A (Builtin.«zip.__next__» ⟨[.ref z], []⟩) (fun fin s' => ∃ v, fin = .done (.ret v) ∧ Q v s') E s := by
  obtain ⟨ti, ⟨u0, v0, to_⟩, a1, a2⟩ := zp
  show wpAny _ _ (field (.ref z) 2 >>= _) _ E s
  refine wpAny_bind (wpAny_field hz rfl (x := .bool false) rfl ?_)
  show wpAny _ _ (field (.ref z) 3 >>= _) _ E s
  refine wpAny_bind (wpAny_field hz rfl (x := .ref TI) rfl ?_)
  refine wpAny_bind (wpAny_seqItems ti rfl ?_)
  show wpAny _ _ (Builtin.SmallTypes.ownedTupleIsFree (.ref z) >>= _) _ E s
  have notfree : ∀ (R : Bool → Shared → Prop), (∀ h1, ZObj h1 z TI TO (.int n 0) true → Heap.SameBut z s.heap h1 → R false { s with heap := h1 }) → wpAny (model prog w) A (Builtin.SmallTypes.ownedTupleIsFree (.ref z)) R E s := fun R hR => by
    unfold Builtin.SmallTypes.ownedTupleIsFree
    refine wpAny_bind (wpAny_field hz rfl (x := .int n 0) rfl ?_)
    refine wpAny_bind (alive ?_)
    rw [hob]
    simp only [Option.isNone_some, Bool.false_eq_true, if_false]
    refine wpAny_bind (wpAny_field hz rfl (x := .bool f1) rfl ?_)
    cases f1 with
    | true =>
      rw [if_neg (show ¬ ((Value.bool true != Value.bool true) = true) from by decide)]
      exact wpAny_pure (hR _ hz ⟨rfl, fun _ _ => rfl⟩)
    | false =>
      rw [if_pos (show (Value.bool false != Value.bool true) = true from by decide)]
      exact wpAny_bind (wpAny_setField_rec hz (by simp) fun h1 z1 b1 => wpAny_pure (hR h1 z1 b1))
  refine wpAny_bind (notfree _ fun h1 z1 b1 => ?_)
  simp only [Bool.false_eq_true, if_false]
  simp only [List.forIn_toArray, List.forIn_cons, List.forIn_nil]
  refine wpAny_bind ?_
  have p1 := a1.extBut b1.extBut D.i1z
  have q1 := a2.extBut b1.extBut D.i2z
  have L1 := hl1.extBut b1.extBut D.l1z
  have L2 := hl2.extBut b1.extBut D.l2z
  refine wpAny_bind (wpAny_bind (wpAny_holding ?_))
  show wpAny _ _ (Builtin.SmallTypes.nextOf (.ref i1) >>= _) _ E _
  refine wpAny_bind (wpAny_nextOf_list_item p1 L1 hx fun h2 p2 b2 => wpAny_pure (wpAny_pure ?_))
  have q2 := q1.extBut b2.extBut (Ne.symm D.i12)
  have M2 := L2.extBut b2.extBut D.l2i1
  refine wpAny_bind (wpAny_bind (wpAny_holding ?_))
  show wpAny _ _ (Builtin.SmallTypes.nextOf (.ref i2) >>= _) _ E _
  refine wpAny_bind (wpAny_nextOf_list_item q2 M2 hy fun h3 q3 b3 => wpAny_pure (wpAny_pure (wpAny_pure ?_)))
  show wpAny _ _ (newTuple [x, y] >>= _) _ E _
  refine wpAny_bind (wpAny_newTuple (wpAny_pure ⟨_, rfl, ?_⟩))
  have sz : h3.objs.size = s.heap.objs.size := by rw [b3.1, b2.1, b1.1]
  have keep : ∀ c o, c ≠ z → c ≠ i1 → c ≠ i2 → s.heap.get? c = some o → h3.get? c = some o := fun c o n1 n2 n3 q => b3.extBut _ _ n3 (b2.extBut _ _ n2 (b1.extBut _ _ n1 q))
  have keep1 : ∀ c o, c ≠ i1 → c ≠ i2 → h1.get? c = some o → h3.get? c = some o := fun c o n2 n3 q => b3.extBut _ _ n3 (b2.extBut _ _ n2 q)
  show Q (.ref h3.objs.size) _
  rw [sz]
  refine hQ _ ⟨.int n 0, true, Heap.get?_push_of_some _ (keep1 _ _ (Ne.symm D.i1z) (Ne.symm D.i2z) z1), .inr ⟨n, rfl⟩, ⟨Heap.get?_push_of_some _ (keep _ _ D.TIz D.TIi1 D.TIi2 ti), ⟨u0, v0, Heap.get?_push_of_some _ (keep _ _ D.TOz D.TOi1 D.TOi2 to_)⟩, ?_, ?_⟩, ?_, ?_, ?_⟩
  · exact (p2.extBut b3.extBut D.i12).at fun o q => Heap.get?_push_of_some _ q
  · exact q3.at fun o q => Heap.get?_push_of_some _ q
  · rw [← sz]; exact Heap.get?_push_size _ rfl
  · rw [Heap.size_push, sz]
  · exact fun c o n1 _ n3 n4 q => Heap.get?_push_of_some _ (keep c o n1 n3 n4 q)
theorem pair_put {T : Addr} {u v x : Value} {j : Nat} {R : Unit → Shared → Prop} (hT : IsPair s.heap T u v)
    (hR : ∀ h1, h1.get? T = some { cls := .type "tuple", data := .seq ((#[u, v] : Array Value).setIfInBounds j x) } → Heap.SameBut T s.heap h1 → R () { s with heap := h1 }) :
    wpAny (model prog w) A (updateSeq T fun q => q.setIfInBounds j x) R E s := wpAny_updateSeq_pair hT hR
theorem is_free {z TI TO : Addr} {f0 : Value} {f1 : Bool} {R : Bool → Shared → Prop} (hz : ZObj s.heap z TI TO f0 f1) (hf : f0 = .none ∨ ∃ n : Int, f0 = .int n 0 ∧ s.heap.get? n.toNat = none) (h : R true s) :
    wpAny (model prog w) A (Builtin.SmallTypes.ownedTupleIsFree (.ref z)) R E s := by
  unfold Builtin.SmallTypes.ownedTupleIsFree
  rcases hf with rfl | ⟨n, rfl, hn⟩
  · exact wpAny_bind (wpAny_field hz rfl (x := .none) rfl (wpAny_pure h))
  · refine wpAny_bind (wpAny_field hz rfl (x := .int n 0) rfl (wpAny_bind (alive ?_)))
    rw [hn]
    exact wpAny_pure h
theorem next_free {z TI TO i1 i2 l1 l2 : Addr} {k : Nat} {xs ys : Array Value} {x y : Value} {f0 : Value} {f1 : Bool} {Q : Value → Shared → Prop} (D : ZipApart z TI TO i1 i2 l1 l2)
    (hz : ZObj s.heap z TI TO f0 f1) (hf : f0 = .none ∨ ∃ n : Int, f0 = .int n 0 ∧ s.heap.get? n.toNat = none) (zp : ZParts s.heap TI TO i1 i2 l1 l2 k) (hl1 : s.heap.IsList l1 xs) (hl2 : s.heap.IsList l2 ys) (hx : xs[k]? = some x) (hy : ys[k]? = some y)
    (hQ : ∀ h', ZNext z TI TO i1 i2 l1 l2 k x y s.heap h' → Q (.ref s.heap.objs.size) { s with heap := h' }) :
    wpAny (model prog w) A (Builtin.«zip.__next__» ⟨[.ref z], []⟩) (fun fin s' => ∃ v, fin = .done (.ret v) ∧ Q v s') E s := by
  obtain ⟨ti, ⟨u0, v0, to_⟩, a1, a2⟩ := zp
  show wpAny _ _ (field (.ref z) 2 >>= _) _ E s
  refine wpAny_bind (wpAny_field hz rfl (x := .bool false) rfl ?_)
  show wpAny _ _ (field (.ref z) 3 >>= _) _ E s
  refine wpAny_bind (wpAny_field hz rfl (x := .ref TI) rfl (wpAny_bind (wpAny_seqItems ti rfl ?_)))
  show wpAny _ _ (Builtin.SmallTypes.ownedTupleIsFree (.ref z) >>= _) _ E s
  refine wpAny_bind (is_free hz hf ?_)
  simp only [if_true]
  refine wpAny_bind (wpAny_rule (wpAny_bind (wpAny_field hz rfl (x := .ref TO) rfl (wpAny_bind (wpAny_setField_rec hz (by simp) fun h1 z1' b1 => ?_)))))
  have z1 : ZObj h1 z TI TO .ellipsis f1 := z1'
  refine wpAny_bind ?_
  simp only [List.zipIdx_cons, List.zipIdx_nil, List.forIn_cons, List.forIn_nil]
  -- the first list's item
  refine wpAny_bind (wpAny_bind (wpAny_onRaise ?_))
  show wpAny _ _ (Builtin.SmallTypes.nextOf (.ref i1) >>= _) _ _ _
  refine wpAny_bind (wpAny_nextOf_list_item (a1.extBut b1.extBut D.i1z) (hl1.extBut b1.extBut D.l1z) hx fun h2 p2 b2 => wpAny_pure ?_)
  have t2 : IsPair h2 TO u0 v0 := b2.extBut _ _ D.TOi1 (b1.extBut _ _ D.TOz to_)
  refine wpAny_bind (wpAny_seqItems t2 rfl (wpAny_bind (pair_put t2 fun h3 t3' b3 => ?_)))
  have t3 : IsPair h3 TO x v0 := t3'
  refine wpAny_bind (wpAny_letGo (wpAny_pure ?_))
  -- the second one's
  refine wpAny_bind (wpAny_bind (wpAny_onRaise ?_))
  show wpAny _ _ (Builtin.SmallTypes.nextOf (.ref i2) >>= _) _ _ _
  have q3 := ((a2.extBut b1.extBut D.i2z).extBut b2.extBut (Ne.symm D.i12)).extBut b3.extBut (Ne.symm D.TOi2)
  have m3 := ((hl2.extBut b1.extBut D.l2z).extBut b2.extBut D.l2i1).extBut b3.extBut D.l2TO
  refine wpAny_bind (wpAny_nextOf_list_item q3 m3 hy fun h4 q4 b4 => wpAny_pure ?_)
  have t4 : IsPair h4 TO x v0 := b4.extBut _ _ D.TOi2 t3
  refine wpAny_bind (wpAny_seqItems t4 rfl (wpAny_bind (pair_put t4 fun h5 t5' b5 => ?_)))
  have t5 : IsPair h5 TO x y := t5'
  refine wpAny_bind (wpAny_letGo (wpAny_pure (wpAny_pure ?_)))
  refine wpAny_bind (wpAny_seqItems t5 rfl (wpAny_bind (wpAny_newTuple ?_)))
  have sz : h5.objs.size = s.heap.objs.size := by rw [b5.1, b4.1, b3.1, b2.1, b1.1]
  have keep : ∀ c o, c ≠ z → c ≠ TO → c ≠ i1 → c ≠ i2 → s.heap.get? c = some o → h5.get? c = some o := fun c o n1 n2 n3 n4 q =>
    b5.extBut _ _ n2 (b4.extBut _ _ n4 (b3.extBut _ _ n2 (b2.extBut _ _ n3 (b1.extBut _ _ n1 q))))
  have z5 : ZObj h5 z TI TO .ellipsis f1 := b5.extBut _ _ (Ne.symm D.TOz) (b4.extBut _ _ (Ne.symm D.i2z) (b3.extBut _ _ (Ne.symm D.TOz) (b2.extBut _ _ (Ne.symm D.i1z) z1)))
  have p5 : h5.IsListIter i1 l1 (k + 1) := ((p2.extBut b3.extBut (Ne.symm D.TOi1)).extBut b4.extBut D.i12).extBut b5.extBut (Ne.symm D.TOi1)
  have q5 : h5.IsListIter i2 l2 (k + 1) := q4.extBut b5.extBut (Ne.symm D.TOi2)
  have ti5 : IsPair h5 TI (.ref i1) (.ref i2) := keep _ _ D.TIz D.TITO D.TIi1 D.TIi2 ti
  have zl : z < h5.objs.size := Heap.lt_size z5
  show wpAny _ _ (Builtin.SmallTypes.ownedTupleHandOut (.ref z) (.ref h5.objs.size) >>= _) _ E _
  refine wpAny_bind ?_
  unfold Builtin.SmallTypes.ownedTupleHandOut
  have z6 : ZObj (h5.push { cls := .type "tuple", data := .seq #[x, y] }) z TI TO .ellipsis f1 := Heap.get?_push_of_some _ z5
  refine wpAny_bind (wpAny_setField_rec z6 (by simp) fun h7 z7' b7 => ?_)
  have z7 : ZObj h7 z TI TO (rawInt h5.objs.size) f1 := z7'
  refine wpAny_setField_rec z7 (by simp) fun h8 z8' b8 => wpAny_pure ⟨_, rfl, ?_⟩
  have z8 : ZObj h8 z TI TO (rawInt h5.objs.size) false := z8'
  have up : ∀ c o, c ≠ z → h5.get? c = some o → h8.get? c = some o := fun c o n1 q => b8.extBut _ _ n1 (b7.extBut _ _ n1 (Heap.get?_push_of_some _ q))
  have T8 : IsPair h8 h5.objs.size x y := b8.extBut _ _ (Nat.ne_of_gt zl) (b7.extBut _ _ (Nat.ne_of_gt zl) (Heap.get?_push_size _ rfl))
  have s8 : h8.objs.size = h5.objs.size + 1 := by rw [b8.1, b7.1, Heap.size_push]
  show Q (.ref h5.objs.size) _
  rw [sz] at T8 s8 ⊢
  exact hQ h8 ⟨_, false, z8, .inr ⟨_, rfl⟩, ⟨up _ _ D.TIz ti5, ⟨x, y, up _ _ D.TOz t5⟩, p5.at fun o q => up _ o D.i1z q, q5.at fun o q => up _ o D.i2z q⟩, T8, s8, fun c o n1 n2 n3 n4 q => up c o n1 (keep c o n1 n2 n3 n4 q)⟩
/-- a zip's next, whatever it holds -/
theorem next_any {z TI TO i1 i2 l1 l2 : Addr} {k : Nat} {xs ys : Array Value} {x y : Value} {f0 : Value} {f1 : Bool} {Q : Value → Shared → Prop} (D : ZipApart z TI TO i1 i2 l1 l2)
    (hz : ZObj s.heap z TI TO f0 f1) (ow : Owned f0 f1) (zp : ZParts s.heap TI TO i1 i2 l1 l2 k) (hl1 : s.heap.IsList l1 xs) (hl2 : s.heap.IsList l2 ys) (hx : xs[k]? = some x) (hy : ys[k]? = some y)
    (hQ : ∀ h', ZNext z TI TO i1 i2 l1 l2 k x y s.heap h' → Q (.ref s.heap.objs.size) { s with heap := h' }) :
    wpAny (model prog w) A (Builtin.SmallTypes.nextOf (.ref z)) Q E s := by
  have hT : s.TypeIs (.ref z) "zip" := ⟨_, hz, rfl⟩
  unfold Builtin.SmallTypes.nextOf
  refine wpAny_bind (wpAny_callSpecial?_slot (name := Str.ofString "__next__") hT F.slot_zip_next (wpAny_call_entry F.slot_zip_next hT F.entry_zip_next ?_ (F.args_zip_next_1 _)))
  have g : ∀ h', ZNext z TI TO i1 i2 l1 l2 k x y s.heap h' → wpAny (model prog w) A (pure (Value.ref s.heap.objs.size)) Q E { s with heap := h' } := fun h' q => wpAny_pure (hQ h' q)
  rcases ow with ⟨rfl, rfl⟩ | ⟨n, rfl⟩
  · exact next_free D hz (.inl rfl) zp hl1 hl2 hx hy g
  · cases e : s.heap.get? n.toNat with
    | none => exact next_free D hz (.inr ⟨n, rfl, e⟩) zp hl1 hl2 hx hy g
    | some o => exact next_held D hz zp e hl1 hl2 hx hy g
/-- what stays when a zip ends -/
abbrev Kept (z TO i1 i2 : Addr) (h h' : Heap) : Prop := ∀ c o, c ≠ z → c ≠ TO → c ≠ i1 → c ≠ i2 → h.get? c = some o → h'.get? c = some o
abbrev IsStop (h : Heap) (e : Addr) : Prop := ∃ o, h.get? e = some o ∧ o.cls = .type "StopIteration"
theorem stop_held {z TI TO i1 i2 l1 l2 : Addr} {k : Nat} {xs ys : Array Value} {n : Int} {f1 : Bool} {ob : Obj} {Q : Fin → Shared → Prop} (hh : A.handled = none) (D : ZipApart z TI TO i1 i2 l1 l2)
    (hz : ZObj s.heap z TI TO (.int n 0) f1) (zp : ZParts s.heap TI TO i1 i2 l1 l2 k) (hob : s.heap.get? n.toNat = some ob) (hl1 : s.heap.IsList l1 xs) (hl2 : s.heap.IsList l2 ys) (hend : xs[k]? = none ∨ ys[k]? = none)
    (hE : ∀ h' e, Kept z TO i1 i2 s.heap h' → IsStop h' e → E (.ref e) { s with heap := h' }) :
    wpAny (model prog w) A (Builtin.«zip.__next__» ⟨[.ref z], []⟩) Q E s := by
  obtain ⟨ti, ⟨u0, v0, to_⟩, a1, a2⟩ := zp
  show wpAny _ _ (field (.ref z) 2 >>= _) _ E s
  refine wpAny_bind (wpAny_field hz rfl (x := .bool false) rfl ?_)
  show wpAny _ _ (field (.ref z) 3 >>= _) _ E s
  refine wpAny_bind (wpAny_field hz rfl (x := .ref TI) rfl (wpAny_bind (wpAny_seqItems ti rfl ?_)))
  show wpAny _ _ (Builtin.SmallTypes.ownedTupleIsFree (.ref z) >>= _) _ E s
  have notfree : ∀ (R : Bool → Shared → Prop), (∀ h1, ZObj h1 z TI TO (.int n 0) true → Heap.SameBut z s.heap h1 → R false { s with heap := h1 }) → wpAny (model prog w) A (Builtin.SmallTypes.ownedTupleIsFree (.ref z)) R E s := fun R hR => by
    unfold Builtin.SmallTypes.ownedTupleIsFree
    refine wpAny_bind (wpAny_field hz rfl (x := .int n 0) rfl (wpAny_bind (alive ?_)))
    rw [hob]
    simp only [Option.isNone_some, Bool.false_eq_true, if_false]
    refine wpAny_bind (wpAny_field hz rfl (x := .bool f1) rfl ?_)
    cases f1 with
    | true =>
      rw [if_neg (show ¬ ((Value.bool true != Value.bool true) = true) from by decide)]
      exact wpAny_pure (hR _ hz ⟨rfl, fun _ _ => rfl⟩)
    | false =>
      rw [if_pos (show (Value.bool false != Value.bool true) = true from by decide)]
      exact wpAny_bind (wpAny_setField_rec hz (by simp) fun h1 z1 b1 => wpAny_pure (hR h1 z1 b1))
  refine wpAny_bind (notfree _ fun h1 z1 b1 => ?_)
  simp only [Bool.false_eq_true, if_false]
  simp only [List.forIn_toArray, List.forIn_cons, List.forIn_nil]
  refine wpAny_bind ?_
  have p1 := a1.extBut b1.extBut D.i1z
  have q1 := a2.extBut b1.extBut D.i2z
  have L1 := hl1.extBut b1.extBut D.l1z
  have L2 := hl2.extBut b1.extBut D.l2z
  refine wpAny_bind (wpAny_bind (wpAny_holding ?_))
  show wpAny _ _ (Builtin.SmallTypes.nextOf (.ref i1) >>= _) _ E _
  cases hx : xs[k]? with
  | none => exact wpAny_bind (wpAny_nextOf_list_end hh p1 L1 hx fun h2 e b2 st => hE h2 e (fun c o n1 _ n3 _ q => b2 _ _ n3 (b1.extBut _ _ n1 q)) st)
  | some x =>
    have hy : ys[k]? = none := by
      rcases hend with q | q
      · rw [hx] at q; cases q
      · exact q
    refine wpAny_bind (wpAny_nextOf_list_item p1 L1 hx fun h2 p2 b2 => wpAny_pure (wpAny_pure ?_))
    have q2 := q1.extBut b2.extBut (Ne.symm D.i12)
    have M2 := L2.extBut b2.extBut D.l2i1
    refine wpAny_bind (wpAny_bind (wpAny_holding ?_))
    show wpAny _ _ (Builtin.SmallTypes.nextOf (.ref i2) >>= _) _ E _
    exact wpAny_bind (wpAny_nextOf_list_end hh q2 M2 hy fun h3 e b3 st => hE h3 e (fun c o n1 _ n3 n4 q => b3 _ _ n4 (b2.extBut _ _ n3 (b1.extBut _ _ n1 q))) st)
theorem stop_free {z TI TO i1 i2 l1 l2 : Addr} {k : Nat} {xs ys : Array Value} {f0 : Value} {f1 : Bool} {Q : Fin → Shared → Prop} (hh : A.handled = none) (D : ZipApart z TI TO i1 i2 l1 l2)
    (hz : ZObj s.heap z TI TO f0 f1) (hf : f0 = .none ∨ ∃ n : Int, f0 = .int n 0 ∧ s.heap.get? n.toNat = none) (zp : ZParts s.heap TI TO i1 i2 l1 l2 k) (hl1 : s.heap.IsList l1 xs) (hl2 : s.heap.IsList l2 ys) (hend : xs[k]? = none ∨ ys[k]? = none)
    (hE : ∀ h' e, Kept z TO i1 i2 s.heap h' → IsStop h' e → E (.ref e) { s with heap := h' }) :
    wpAny (model prog w) A (Builtin.«zip.__next__» ⟨[.ref z], []⟩) Q E s := by
  obtain ⟨ti, ⟨u0, v0, to_⟩, a1, a2⟩ := zp
  show wpAny _ _ (field (.ref z) 2 >>= _) _ E s
  refine wpAny_bind (wpAny_field hz rfl (x := .bool false) rfl ?_)
  show wpAny _ _ (field (.ref z) 3 >>= _) _ E s
  refine wpAny_bind (wpAny_field hz rfl (x := .ref TI) rfl (wpAny_bind (wpAny_seqItems ti rfl ?_)))
  show wpAny _ _ (Builtin.SmallTypes.ownedTupleIsFree (.ref z) >>= _) _ E s
  refine wpAny_bind (is_free hz hf ?_)
  simp only [if_true]
  refine wpAny_bind (wpAny_rule (wpAny_bind (wpAny_field hz rfl (x := .ref TO) rfl (wpAny_bind (wpAny_setField_rec hz (by simp) fun h1 z1' b1 => ?_)))))
  have z1 : ZObj h1 z TI TO .ellipsis f1 := z1'
  refine wpAny_bind ?_
  simp only [List.zipIdx_cons, List.zipIdx_nil, List.forIn_cons, List.forIn_nil]
  refine wpAny_bind (wpAny_bind (wpAny_onRaise ?_))
  show wpAny _ _ (Builtin.SmallTypes.nextOf (.ref i1) >>= _) _ _ _
  have apart : ∀ {h : Heap} {e : Addr}, ZObj h z TI TO .ellipsis f1 → IsStop h e → e ≠ z := fun {h e} zo ⟨o, q1, q2⟩ ez => by
    rw [ez, zo] at q1
    cases q1
    simp at q2
  cases hx : xs[k]? with
  | none =>
    refine wpAny_bind (wpAny_nextOf_list_end hh (a1.extBut b1.extBut D.i1z) (hl1.extBut b1.extBut D.l1z) hx fun h2 e b2 st => ?_)
    have z2 : ZObj h2 z TI TO .ellipsis f1 := b2 _ _ (Ne.symm D.i1z) z1
    have ez := apart z2 st
    obtain ⟨oe, q1, q2⟩ := st
    exact wpAny_setField_rec z2 (by simp) fun h3 _ b3 => hE h3 e (fun c o n1 _ n3 _ q => b3.extBut _ _ n1 (b2 _ _ n3 (b1.extBut _ _ n1 q))) ⟨oe, b3.extBut _ _ ez q1, q2⟩
  | some x =>
    have hy : ys[k]? = none := by
      rcases hend with q | q
      · rw [hx] at q; cases q
      · exact q
    refine wpAny_bind (wpAny_nextOf_list_item (a1.extBut b1.extBut D.i1z) (hl1.extBut b1.extBut D.l1z) hx fun h2 p2 b2 => wpAny_pure ?_)
    have t2 : IsPair h2 TO u0 v0 := b2.extBut _ _ D.TOi1 (b1.extBut _ _ D.TOz to_)
    refine wpAny_bind (wpAny_seqItems t2 rfl (wpAny_bind (pair_put t2 fun h3 t3' b3 => ?_)))
    refine wpAny_bind (wpAny_letGo (wpAny_pure ?_))
    refine wpAny_bind (wpAny_bind (wpAny_onRaise ?_))
    show wpAny _ _ (Builtin.SmallTypes.nextOf (.ref i2) >>= _) _ _ _
    have q3 := ((a2.extBut b1.extBut D.i2z).extBut b2.extBut (Ne.symm D.i12)).extBut b3.extBut (Ne.symm D.TOi2)
    have m3 := ((hl2.extBut b1.extBut D.l2z).extBut b2.extBut D.l2i1).extBut b3.extBut D.l2TO
    refine wpAny_bind (wpAny_nextOf_list_end hh q3 m3 hy fun h4 e b4 st => ?_)
    have z4 : ZObj h4 z TI TO .ellipsis f1 := b4 _ _ (Ne.symm D.i2z) (b3.extBut _ _ (Ne.symm D.TOz) (b2.extBut _ _ (Ne.symm D.i1z) z1))
    have ez := apart z4 st
    obtain ⟨oe, q1, q2⟩ := st
    exact wpAny_setField_rec z4 (by simp) fun h5 _ b5 => hE h5 e (fun c o n1 n2 n3 n4 q => b5.extBut _ _ n1 (b4 _ _ n4 (b3.extBut _ _ n2 (b2.extBut _ _ n3 (b1.extBut _ _ n1 q))))) ⟨oe, b5.extBut _ _ ez q1, q2⟩
theorem stop_any {z TI TO i1 i2 l1 l2 : Addr} {k : Nat} {xs ys : Array Value} {f0 : Value} {f1 : Bool} {Q : Value → Shared → Prop} (hh : A.handled = none) (D : ZipApart z TI TO i1 i2 l1 l2)
    (hz : ZObj s.heap z TI TO f0 f1) (ow : Owned f0 f1) (zp : ZParts s.heap TI TO i1 i2 l1 l2 k) (hl1 : s.heap.IsList l1 xs) (hl2 : s.heap.IsList l2 ys) (hend : xs[k]? = none ∨ ys[k]? = none)
    (hE : ∀ h' e, Kept z TO i1 i2 s.heap h' → IsStop h' e → E (.ref e) { s with heap := h' }) : wpAny (model prog w) A (Builtin.SmallTypes.nextOf (.ref z)) Q E s := by
  have hT : s.TypeIs (.ref z) "zip" := ⟨_, hz, rfl⟩
  unfold Builtin.SmallTypes.nextOf
  refine wpAny_bind (wpAny_callSpecial?_slot (name := Str.ofString "__next__") hT F.slot_zip_next (wpAny_call_entry F.slot_zip_next hT F.entry_zip_next ?_ (F.args_zip_next_1 _)))
  rcases ow with ⟨rfl, rfl⟩ | ⟨n, rfl⟩
  · exact stop_free hh D hz (.inl rfl) zp hl1 hl2 hend hE
  · cases e : s.heap.get? n.toNat with
    | none => exact stop_free hh D hz (.inr ⟨n, rfl, e⟩) zp hl1 hl2 hend hE
    | some o => exact stop_held hh D hz zp e hl1 hl2 hend hE
end
end EZ
/-! SC13: enumerate over a zip; games that part. -/
namespace EZ
open PySem
open Sem (wp)
open AutoSeq1 (wpAny_loadPart')
theorem new_ez (z TI TO : Addr) :
    Meets (Builtin.«enumerate.__new__» ⟨[.type "enumerate", .ref z], []⟩) (fun _ R s => IsZip s.heap z TI TO .none ∧
      R (.ok (.ret (.ref s.heap.objs.size))) { s with heap := s.heap.push { cls := .type "enumerate", data := .fields #[.none, .bool false, .ref z, rawInt 0, .none, .none] } }) :=
  .of_wp fun prog w A R s h => by
    obtain ⟨hp, g, d, tk, os⟩ := s; obtain ⟨hz, h⟩ := h
    have hsub := sub_enumerate
    have hZ : IsZip (Shared.heap ⟨hp, g, d, tk, os⟩) z TI TO .none := hz
    wp_walk using wpAny_loadPart' hz
    refine wpAny_stack_any fun st => wpAny_pure ?_
    split
    · rename_i c _ _ _ _ _
      cases (c == Value.type "enumerate")
      · wp_walk using wpAny_loadPart' hz, wpAny_pyIter_zip hZ
        exact ⟨_, rfl, h⟩
      · wp_walk using wpAny_loadPart' hz, wpAny_pyIter_zip hZ
        exact ⟨_, rfl, h⟩
    · wp_walk using wpAny_loadPart' hz, wpAny_pyIter_zip hZ
      exact ⟨_, rfl, h⟩
section
variable {prog : Program} {w : World} {A : Around} {E : Value → Shared → Prop} {s : Shared}
theorem call_ez {z TI TO : Addr} {Q : Value → Shared → Prop} (hz : IsZip s.heap z TI TO .none)
    (h : ∀ h', IsEnum h' s.heap.objs.size z 0 .none → (∀ b o, s.heap.get? b = some o → h'.get? b = some o) → Q (.ref s.heap.objs.size) { s with heap := h' }) :
    wpAny (model prog w) A (call (.type "enumerate") [.ref z]) Q E s := by
  refine callType_new F.called_enumerate (by decide) (F.typeCall_enumerate_1 _) (F.newCall_enumerate_1 _) (fun obj => F.args_object_init_2 obj _) F.entry_enumerate_new (new_ez z TI TO) ⟨hz, ?_⟩
  have he : IsEnum (s.heap.push { cls := .type "enumerate", data := .fields #[.none, .bool false, .ref z, rawInt 0, .none, .none] }) s.heap.objs.size z 0 .none := Heap.get?_push_size _ rfl
  exact ⟨⟨_, he, rfl⟩, h _ he fun b o q => Heap.get?_push_of_some _ q⟩
theorem next_ez {e z TI TO i1 i2 l1 l2 : Addr} {k : Nat} {xs ys : Array Value} {x y old f0 : Value} {f1 : Bool} {Q : Value → Shared → Prop} (D : ZipApart z TI TO i1 i2 l1 l2)
    (ne : e ≠ z ∧ e ≠ TO ∧ e ≠ i1 ∧ e ≠ i2) (he : IsEnum s.heap e z (k : Int) old)
    (hz : ZObj s.heap z TI TO f0 f1) (ow : Owned f0 f1) (zp : ZParts s.heap TI TO i1 i2 l1 l2 k) (hl1 : s.heap.IsList l1 xs) (hl2 : s.heap.IsList l2 ys) (hx : xs[k]? = some x) (hy : ys[k]? = some y)
    (hQ : ∀ h1 h', ZNext z TI TO i1 i2 l1 l2 k x y s.heap h1 → IsEnumOut h' e z ((k : Int) + 1) (.ref s.heap.objs.size) h1.objs.size → IsPair h' h1.objs.size (.int k s.toks) (.ref s.heap.objs.size) →
      (∀ b o, b ≠ e → h1.get? b = some o → h'.get? b = some o) → Q (.ref h1.objs.size) { s with heap := h', toks := s.toks + 1 }) :
    wpAny (model prog w) A (Builtin.«enumerate.__next__» ⟨[.ref e], []⟩) (fun fin s' => ∃ v, fin = .done (.ret v) ∧ Q v s') E s := by
  obtain ⟨hp, g, d, tk, os⟩ := s
  show wpAny _ _ (field (.ref e) 2 >>= _) _ _ _
  refine wpAny_bind (wpAny_field he rfl (x := .ref z) rfl (wpAny_bind (next_any D hz ow zp hl1 hl2 hx hy fun h1 zn => ?_)))
  obtain ⟨n1, n2, n3, n4⟩ := ne
  have k1 := hQ h1
  have zn' := zn
  obtain ⟨_, _, _, _, _, p1, sz1, kp⟩ := zn'
  have e1 : IsEnum h1 e z k old := kp _ _ n1 n2 n3 n4 he
  have el : e < hp.objs.size := Heap.lt_size he
  have sz1' : h1.objs.size = hp.objs.size + 1 := sz1
  show wpAny _ _ (field (.ref e) 3 >>= _) _ _ ⟨h1, g, d, tk, os⟩
  refine wpAny_bind (wpAny_field e1 rfl (x := rawInt k) rfl ?_)
  show wpAny _ _ (field (.ref e) 4 >>= _) _ _ ⟨h1, g, d, tk, os⟩
  refine wpAny_bind (wpAny_field e1 rfl (x := .none) rfl ?_)
  show wpAny _ _ (mkInt k >>= _) _ _ ⟨h1, g, d, tk, os⟩
  refine wpAny_bind (wpAny_mkInt ?_)
  show wpAny _ _ (setField (.ref e) 3 (rawInt ((k : Int) + 1)) >>= _) _ _ ⟨h1, g, d, tk + 1, os⟩
  refine wpAny_bind (wpAny_setField_rec e1 (by simp) fun h2 e2' b2 => ?_)
  have e2 : IsEnum h2 e z ((k : Int) + 1) old := e2'
  show wpAny _ _ (setField (.ref e) 4 .none >>= _) _ _ ⟨h2, g, d, tk + 1, os⟩
  refine wpAny_bind (wpAny_setField_rec e2 (by simp) fun h3 e3' b3 => ?_)
  have e3 : IsEnum h3 e z ((k : Int) + 1) old := e3'
  show wpAny _ _ (newTuple [.int k tk, .ref hp.objs.size] >>= _) _ _ ⟨h3, g, d, tk + 1, os⟩
  refine wpAny_bind (wpAny_newTuple ?_)
  have s3 : h3.objs.size = h1.objs.size := b3.1.trans b2.1
  show wpAny _ _ (Builtin.SmallTypes.ownedTupleIsFree (.ref e) >>= _) _ _ _
  have e4 : IsEnum (h3.push { cls := .type "tuple", data := .seq #[.int k tk, .ref hp.objs.size] }) e z ((k : Int) + 1) old := Heap.get?_push_of_some _ e3
  have p4 : IsPair (h3.push { cls := .type "tuple", data := .seq #[.int k tk, .ref hp.objs.size] }) h1.objs.size (.int k tk) (.ref hp.objs.size) := by rw [← s3]; exact Heap.get?_push_size _ rfl
  have k4 : ∀ b o, b ≠ e → h1.get? b = some o → (h3.push { cls := .type "tuple", data := .seq #[.int k tk, .ref hp.objs.size] }).get? b = some o := fun b o nb q => Heap.get?_push_of_some _ (b3.extBut _ _ nb (b2.extBut _ _ nb q))
  have ne1 : h1.objs.size ≠ e := by rw [sz1']; exact Nat.ne_of_gt (Nat.lt_succ_of_lt el)
  rw [s3]
  generalize h3.push { cls := .type "tuple", data := .seq #[.int k tk, .ref hp.objs.size] } = h4 at e4 p4 k4
  refine wpAny_bind ?_
  unfold Builtin.SmallTypes.ownedTupleIsFree
  refine wpAny_bind (wpAny_field e4 rfl (x := .none) rfl (wpAny_pure ?_))
  simp only [if_true]
  refine wpAny_bind (wpAny_rule (wpAny_bind (wpAny_field e4 rfl (x := old) rfl (wpAny_bind (wpAny_setField_rec e4 (by simp) fun h5 e5' b5 => ?_)))))
  have e5 : IsEnum h5 e z ((k : Int) + 1) (.ref hp.objs.size) := e5'
  show wpAny _ _ (Builtin.SmallTypes.ownedTupleHandOut (.ref e) (.ref h1.objs.size) >>= _) _ _ _
  refine wpAny_bind ?_
  unfold Builtin.SmallTypes.ownedTupleHandOut
  refine wpAny_bind (wpAny_setField_rec e5 (by simp) fun h6 e6' b6 => ?_)
  have e6 : IsEnumOut h6 e z ((k : Int) + 1) (.ref hp.objs.size) h1.objs.size := e6'
  refine wpAny_setField_rec e6 (by simp) fun h7 e7' b7 => wpAny_bind (wpAny_letGo (wpAny_pure ⟨_, rfl, ?_⟩))
  have e7 : IsEnumOut h7 e z ((k : Int) + 1) (.ref hp.objs.size) h1.objs.size := e7'
  exact k1 h7 zn e7 (b7.extBut _ _ ne1 (b6.extBut _ _ ne1 (b5.extBut _ _ ne1 p4))) fun b o nb q => b7.extBut _ _ nb (b6.extBut _ _ nb (b5.extBut _ _ nb (k4 b o nb q)))
theorem pyNext_ez {e z TI TO i1 i2 l1 l2 : Addr} {k : Nat} {xs ys : Array Value} {x y old f0 : Value} {f1 : Bool} {Q : Option Value → Shared → Prop} (D : ZipApart z TI TO i1 i2 l1 l2)
    (ne : e ≠ z ∧ e ≠ TO ∧ e ≠ i1 ∧ e ≠ i2) (he : IsEnum s.heap e z (k : Int) old)
    (hz : ZObj s.heap z TI TO f0 f1) (ow : Owned f0 f1) (zp : ZParts s.heap TI TO i1 i2 l1 l2 k) (hl1 : s.heap.IsList l1 xs) (hl2 : s.heap.IsList l2 ys) (hx : xs[k]? = some x) (hy : ys[k]? = some y)
    (hQ : ∀ h1 h', ZNext z TI TO i1 i2 l1 l2 k x y s.heap h1 → IsEnumOut h' e z ((k : Int) + 1) (.ref s.heap.objs.size) h1.objs.size → IsPair h' h1.objs.size (.int k s.toks) (.ref s.heap.objs.size) →
      (∀ b o, b ≠ e → h1.get? b = some o → h'.get? b = some o) → Q (some (.ref h1.objs.size)) { s with heap := h', toks := s.toks + 1 }) :
    wpAny (model prog w) A (pyNext (.ref e)) Q E s := by
  have hT : s.TypeIs (.ref e) "enumerate" := ⟨_, he, rfl⟩
  unfold pyNext
  exact wpAny_bind (wpAny_attempt (wpAny_callSpecial?_slot (name := Str.ofString "__next__") hT F.slot_enumerate_next (wpAny_call_entry F.slot_enumerate_next hT F.entry_enumerate_next
    (next_ez D ne he hz ow zp hl1 hl2 hx hy fun h1 h' a b c q => wpAny_pure (hQ h1 h' a b c q)) (F.args_enumerate_next_1 _))))
theorem pyNext_ez_end {e z TI TO i1 i2 l1 l2 : Addr} {k : Nat} {xs ys : Array Value} {old f0 : Value} {f1 : Bool} {Q : Option Value → Shared → Prop} (hh : A.handled = none) (D : ZipApart z TI TO i1 i2 l1 l2)
    (he : IsEnum s.heap e z (k : Int) old)
    (hz : ZObj s.heap z TI TO f0 f1) (ow : Owned f0 f1) (zp : ZParts s.heap TI TO i1 i2 l1 l2 k) (hl1 : s.heap.IsList l1 xs) (hl2 : s.heap.IsList l2 ys) (hend : xs[k]? = none ∨ ys[k]? = none)
    (hQ : ∀ h', Kept z TO i1 i2 s.heap h' → Q none { s with heap := h' }) : wpAny (model prog w) A (pyNext (.ref e)) Q E s := by
  have hT : s.TypeIs (.ref e) "enumerate" := ⟨_, he, rfl⟩
  unfold pyNext
  refine wpAny_bind (wpAny_attempt (wpAny_callSpecial?_slot (name := Str.ofString "__next__") hT F.slot_enumerate_next (wpAny_call_entry F.slot_enumerate_next hT F.entry_enumerate_next ?_ (F.args_enumerate_next_1 _))))
  show wpAny _ _ (field (.ref e) 2 >>= _) _ _ _
  refine wpAny_bind (wpAny_field he rfl (x := .ref z) rfl (wpAny_bind (stop_any hh D hz ow zp hl1 hl2 hend fun h' x kp st => ?_)))
  obtain ⟨o, ho, hc⟩ := st
  exact wpAny_bind (wpAny_isInstance (T := "StopIteration") (b := true) ⟨o, ho, hc⟩ isSubtype_stop (wpAny_pure (hQ _ kp)))
end
end EZ

namespace SC
open PySem PySem.Spec PyProof.Rows L2 EZ
/-- enumerate(zip(a, b)): at each turn a new pair within a new pair -/
def Itez (K : PySem.W.Frag) (a b : Addr) : It :=
  ⟨fun i H => ∃ (xs ys : List V) (x y : V), SqL K H a xs ∧ SqL K H b ys ∧ xs[i]? = some x ∧ ys[i]? = some y,
    fun i H v H' => ∃ U T x y, v = .ref T ∧ H U = none ∧ H T = none ∧ U ≠ T ∧ H' = upd (upd H U (.tup [x, y])) T (.tup [.int (i : Nat), .ref U]) ∧ (∀ xs, SqL K H a xs → xs[i]? = some x) ∧ ∀ ys, SqL K H b ys → ys[i]? = some y,
    fun i H => ∃ xs ys : List V, SqL K H a xs ∧ SqL K H b ys ∧ (xs.length ≤ i ∨ ys.length ≤ i)⟩
/-- what stands at the i-th turn -/
structure EzAt (h : Heap) (a b e z TI TO i1 i2 : Addr) (i : Nat) : Prop where
  en : ∃ old, IsEnum h e z (i : Int) old
  zo : ∃ f0 f1, ZObj h z TI TO f0 f1 ∧ Owned f0 f1
  zp : ZParts h TI TO i1 i2 a b i
theorem FpOk.up {X : Cx} {pins : List (Addr × Obj)} {H : Hp} {b p : Addr} {o : HO} (f : FpOk X pins H b) (n : b ≠ p) : FpOk X pins (L2.upd H p o) b := by
  obtain ⟨f0, f1, f2, f3, f4, f5⟩ := f
  exact ⟨by rw [upd_ne n]; exact f0, f1, f2, f3, f4, f5⟩
theorem turn_ez {P : Program} {w : World} {K : PySem.W.Frag} {elts : List Expr} {kk : Nat} {tpos : Pos} {a b e z TI TO i1 i2 : Addr} (D : ZipApart z TI TO i1 i2 a b)
    (ne : e ≠ z ∧ e ≠ TO ∧ e ≠ i1 ∧ e ≠ i2 ∧ e ≠ TI) : Turn P w K (.Tuple elts kk tpos) (Itez K a b) [e, z, TI, TO, i1, i2] e (fun i h => EzAt h a b e z TI TO i1 i2 i) where
  mem := by simp
  obj := fun i h st c hc => by
    obtain ⟨⟨old, he⟩, ⟨f0, f1, hz, _⟩, ⟨hTI, ⟨x, y, hTO⟩, ⟨o1, e1, _, d1⟩, ⟨o2, e2, _, d2⟩⟩⟩ := st
    have e' : c = e ∨ c = z ∨ c = TI ∨ c = TO ∨ c = i1 ∨ c = i2 := by simpa using hc
    rcases e' with q | q | q | q | q | q <;> rw [q]
    · exact ⟨_, he, fun v q => nomatch q⟩
    · exact ⟨_, hz, fun v q => nomatch q⟩
    · exact ⟨_, hTI, fun v q => nomatch q⟩
    · exact ⟨_, hTO, fun v q => nomatch q⟩
    · exact ⟨o1, e1, fun v q => by rw [d1] at q; cases q⟩
    · exact ⟨o2, e2, fun v q => by rw [d2] at q; cases q⟩
  keep := fun i h h' st k => by
    obtain ⟨⟨old, he⟩, ⟨f0, f1, hz, ow⟩, ⟨hTI, ⟨x, y, hTO⟩, h1, h2⟩⟩ := st
    exact ⟨⟨old, k e (by simp) _ he⟩, ⟨f0, f1, k z (by simp) _ hz, ow⟩, ⟨k TI (by simp) _ hTI, ⟨x, y, k TO (by simp) _ hTO⟩, h1.at fun o q => k i1 (by simp) o q, h2.at fun o q => k i2 (by simp) o q⟩⟩
  item := by
    intro X hP hw hK hc i pins s σ H E I hf st hg
    subst hP hw hK
    obtain ⟨⟨old, he⟩, ⟨f0, f1, hz, ow⟩, zp⟩ := st
    obtain ⟨xs, ys, x, y, hqx, hqy, hx, hy⟩ := hg
    obtain ⟨its, rv, p, _⟩ := I.list hqx
    obtain ⟨its2, rv2, p2, _⟩ := I.list hqy
    obtain ⟨u, hu, ru⟩ := rv.get hx
    obtain ⟨u2, hu2, ru2⟩ := rv2.get hy
    have el : e < s.heap.objs.size := Heap.lt_size he
    have lt : ∀ c ∈ [e, z, TI, TO, i1, i2], c < s.heap.objs.size := fun c hcm => by
      have e' : c = e ∨ c = z ∨ c = TI ∨ c = TO ∨ c = i1 ∨ c = i2 := by simpa using hcm
      rcases e' with q | q | q | q | q | q <;> rw [q]
      · exact el
      · exact Heap.lt_size hz
      · exact Heap.lt_size zp.ti
      · obtain ⟨_, _, q⟩ := zp.to_; exact Heap.lt_size q
      · obtain ⟨_, e1, _⟩ := zp.a1; exact Heap.lt_size e1
      · obtain ⟨_, e2, _⟩ := zp.a2; exact Heap.lt_size e2
    refine pyNext_ez D ⟨ne.1, ne.2.1, ne.2.2.1, ne.2.2.2.1⟩ he hz ow zp p.isList p2.isList (x := u) (y := u2) (by simpa using hu) (by simpa using hu2) fun h1 h' zn ho hT hk => ?_
    refine ⟨_, rfl, wpAny_letOwnedTupleGo_enum (s := { s with heap := h', toks := s.toks + 1 }) ho fun h'' he' sb => ?_⟩
    obtain ⟨g0, g1, z1, ow1, zp1, pU, sz1, kp⟩ := zn
    have nU : ∀ c ∈ [e, z, TI, TO, i1, i2], c ≠ s.heap.objs.size := fun c hcm => Nat.ne_of_lt (lt c hcm)
    have I1 : Inv X pins σ (upd H s.heap.objs.size (.tup [x, y])) { s with heap := h1 } :=
      I.turnedNew (t' := s.toks) (ch := [z, TI, TO, i1, i2]) (fun c o hb q => kp c o (fun q' => hb (by simp [q'])) (fun q' => hb (by simp [q'])) (fun q' => hb (by simp [q'])) (fun q' => hb (by simp [q'])) q)
        (fun c hcm => hf c (List.mem_cons_of_mem _ hcm)) (Nat.le_refl _) ⟨by show 2 ≤ sizeLine; decide, [u, u2], .cons ru (.cons ru2 .nil), ⟨_, pU, rfl, _, rfl⟩⟩
    have lT : e < h1.objs.size := by rw [sz1]; exact Nat.lt_succ_of_lt el
    have up : ∀ c o, c ≠ e → h1.get? c = some o → h''.get? c = some o := fun c o n q => sb.extBut _ _ n (hk c o n q)
    have pT : IsPair h'' h1.objs.size (.int i s.toks) (.ref s.heap.objs.size) := sb.extBut _ _ (Nat.ne_of_gt lT) hT
    have I2 : Inv X pins σ (upd (upd H s.heap.objs.size (.tup [x, y])) h1.objs.size (.tup [.int (i : Nat), .ref s.heap.objs.size])) { s with heap := h'', toks := s.toks + 1 } :=
      I1.turnedNew (t' := s.toks + 1) (ch := [e]) (fun c o hb q => up c o (fun q' => hb (by simp [q'])) q)
        (fun c hcm => by rw [List.mem_singleton.mp hcm]; exact FpOk.up (hf e (by simp)) (nU e (by simp))) (Nat.le_refl _) ⟨by show 2 ≤ sizeLine; decide, [.int i s.toks, .ref s.heap.objs.size], .cons ⟨_, rfl⟩ (.cons rfl .nil), ⟨_, pT, rfl, _, rfl⟩⟩
    have nUT : s.heap.objs.size ≠ h1.objs.size := by rw [sz1]; exact Nat.ne_of_lt (Nat.lt_succ_self _)
    have fT : H h1.objs.size = none := by
      have q := I1.hok.fresh (Nat.le_refl h1.objs.size)
      rw [upd_ne (Ne.symm nUT)] at q
      exact q
    refine ⟨.ref h1.objs.size, _, I2, rfl, ⟨s.heap.objs.size, h1.objs.size, x, y, rfl, I.hok.fresh (Nat.le_refl _), fT, nUT, rfl, fun l hl => by rw [I.list_inj hl hqx]; exact hx, fun l hl => by rw [I.list_inj hl hqy]; exact hy⟩, ⟨⟨.ref s.heap.objs.size, ?_⟩, ⟨g0, g1, up _ _ (Ne.symm ne.1) z1, ow1⟩, ?_⟩, fun c hcm => ?_⟩
    · have e1 : ((i + 1 : Nat) : Int) = (i : Int) + 1 := by omega
      rw [e1]; exact he'
    · obtain ⟨q1, ⟨a0, b0, q2⟩, q3, q4⟩ := zp1
      exact ⟨up _ _ (Ne.symm ne.2.2.2.2) q1, ⟨a0, b0, up _ _ (Ne.symm ne.2.1) q2⟩, q3.at fun o q => up _ o (Ne.symm ne.2.2.1) q, q4.at fun o q => up _ o (Ne.symm ne.2.2.2.1) q⟩
    · have l := lt c hcm
      rw [upd_ne (by rw [sz1]; exact Nat.ne_of_lt (Nat.lt_succ_of_lt l)), upd_ne (Nat.ne_of_lt l)]
      exact (hf c hcm).1
  done := by
    intro X hP hw hK hc i pins s σ H E I hf st hg
    subst hP hw hK
    obtain ⟨⟨old, he⟩, ⟨f0, f1, hz, ow⟩, zp⟩ := st
    obtain ⟨xs, ys, hqx, hqy, hend⟩ := hg
    obtain ⟨its, rv, p, _⟩ := I.list hqx
    obtain ⟨its2, rv2, p2, _⟩ := I.list hqy
    have l1 := rv.length
    have l2 := rv2.length
    have hn : its.toArray[i]? = none ∨ its2.toArray[i]? = none := by
      rcases hend with q | q
      · exact .inl (by simp; omega)
      · exact .inr (by simp; omega)
    exact pyNext_ez_end (I.ok.hd hc) D he hz ow zp p.isList p2.isList hn fun h' hk => ⟨rfl, I.turnedL (t' := s.toks) (ch := [z, TI, TO, i1, i2]) (fun c o hb q =>
      hk c o (fun q' => hb (by simp [q'])) (fun q' => hb (by simp [q'])) (fun q' => hb (by simp [q'])) (fun q' => hb (by simp [q'])) q) fun c hcm => hf c (List.mem_cons_of_mem _ hcm)⟩
  self := fun A i s Q E st h => let ⟨_, he⟩ := st.en; wpAny_pyIter_enum he h
def iEz (K : PySem.W.Frag) (ta : TA) : TI := fun σ H R => ta σ H fun vs H1 => ∃ a b xs ys, vs = [.ref a, .ref b] ∧ SqL K H1 a xs ∧ SqL K H1 b ys ∧ R (Itez K a b) H1
theorem pi_ez {X : Cx} {e e2 : Expr} {ta : TA} {p q pos pos2 tpos : Pos} {elts : List Expr} {kk : Nat} (hg : Gl X "enumerate") (hm : X.mg "enumerate" = none) (hg2 : Gl X "zip") (hm2 : X.mg "zip" = none) (ha : PA X [e, e2] ta)
    (hs : starEach [e, e2] X.env = (false, eval e X.env) :: starEach [e2] X.env := by rfl) (hpl : (backTo pos2 (starEach [e2] X.env)).any (·.1) = false := by rfl)
    (hs1 : starEach [.Call (.Name "zip" q) [e, e2] [] pos2] X.env = [(false, eval (.Call (.Name "zip" q) [e, e2] [] pos2) X.env)] := by rfl) :
    PI X (.Tuple elts kk tpos) (.Call (.Name "enumerate" p) [.Call (.Name "zip" q) [e, e2] [] pos2] [] pos) (iEz X.K ta) := by
  refine ⟨fun pins s σ H R I h => ?_⟩
  refine Call_ (ld_blt I hg hm boot_enumerate (PyProof.Rows.callWith_type1 ?_ hs1 rfl))
  rw [hs1]
  refine Calls.spliced_cons ?_
  refine Call_ (ld_blt I hg2 hm2 PyProof.Rows.boot_zip (PyProof.Rows.callWith_type1 (thn (ha.run pos2 pins s σ H _ I h) fun us s1 ⟨vs, H1, I1, r1, q1⟩ => ?_) hs hpl))
  obtain ⟨a, b, xs, ys, ex, hqx, hqy, q⟩ := q1
  subst ex
  cases r1 with
  | cons r rr =>
    cases rr with
    | cons r' rr =>
      cases rr
      cases r
      cases r'
      obtain ⟨its, rv, p1, _⟩ := I1.list hqx
      obtain ⟨its2, rv2, p2, _⟩ := I1.list hqy
      refine call_zip_2 p1.isList p2.isList fun h2 hz hTI hTO t1 t2 hsz hk => Calls.spliced_nil ?_
      refine call_ez (s := { s1 with heap := h2 }) hz fun h3 he hk3 => wpAny_pyIter_enum he ?_
      have D := PySem.W.ktu_apart s1.heap.objs.size a b p1.lt p2.lt
      have I2 : Inv X pins σ H1 { s1 with heap := h3 } := I1.kept (t' := s1.toks) fun c o z => hk3 _ _ (hk c o z)
      have sz : h2.objs.size = s1.heap.objs.size + 5 := hsz
      refine ⟨h2.objs.size, [h2.objs.size, s1.heap.objs.size + 4, s1.heap.objs.size + 2, s1.heap.objs.size + 3, s1.heap.objs.size, s1.heap.objs.size + 1], _, _, H1, rfl, I2,
        turn_ez D ⟨?_, ?_, ?_, ?_, ?_⟩, ⟨⟨.none, he⟩, ⟨.none, false, hk3 _ _ hz, .inl ⟨rfl, rfl⟩⟩, ⟨hk3 _ _ hTI, ⟨_, _, hk3 _ _ hTO⟩, t1.at fun o z => hk3 _ o z, t2.at fun o z => hk3 _ o z⟩⟩, fun c hcm => ?_, q⟩
      iterate 5 (rw [sz]; apply Nat.ne_of_gt; first | exact Nat.lt_succ_self _ | exact Nat.add_lt_add_left (by decide) _ | exact Nat.lt_add_of_pos_right (by decide))
      have hle : s1.heap.objs.size ≤ c := by
        have e' : c = h2.objs.size ∨ c = s1.heap.objs.size + 4 ∨ c = s1.heap.objs.size + 2 ∨ c = s1.heap.objs.size + 3 ∨ c = s1.heap.objs.size ∨ c = s1.heap.objs.size + 1 := by simpa using hcm
        rcases e' with z | z | z | z | z | z <;> rw [z]
        · rw [sz]; exact Nat.le_add_right _ _
        · exact Nat.le_add_right _ _
        · exact Nat.le_add_right _ _
        · exact Nat.le_add_right _ _
        · exact Nat.le_refl _
        · exact Nat.le_add_right _ _
      exact I1.fpOk hle (I1.hok.fresh hle)
end SC
/-! SC14: where two games part. -/
namespace SC
open PySem PySem.Spec PyProof.Rows L2
theorem for_ez {K : PySem.W.Frag} {a b : Addr} {xs ys : List V} {g : TG} {tb : L2.TS} {D : Ends} {σ : L2.St} {H : Hp} (Pv : Nat → L2.St → Hp → Prop) (h0 : Pv 0 σ H) (hl : ∀ i σ H, Pv i σ H → SqL K H a xs ∧ SqL K H b ys)
    (hs : ∀ i x y U T σ H, xs[i]? = some x → ys[i]? = some y → Pv i σ H → H U = none → H T = none → U ≠ T → g (.ref T) σ (upd (upd H U (.tup [x, y])) T (.tup [.int (i : Nat), .ref U])) fun σ2 H2 => tb { D with nx := Pv (i + 1), ct := Pv (i + 1), bk := D.nx } σ2 H2)
    (hd : ∀ i σ H, Pv i σ H → xs.length ≤ i ∨ ys.length ≤ i → D.nx σ H) :
    ∃ W : Nat → Nat → L2.St → Hp → Prop, (∃ m, W 0 m σ H) ∧ ∀ i m σ H, W i m σ H →
      ((Itez K a b).stop i H ∧ D.nx σ H) ∨ ((Itez K a b).go i H ∧ ∃ N : L2.St → Hp → Prop, (∀ σ' H', N σ' H' → ∃ m', m' < m ∧ W (i + 1) m' σ' H') ∧ ∀ x H', (Itez K a b).yld i H x H' → g x σ H' fun σ2 H2 => tb { D with nx := N, ct := N, bk := D.nx } σ2 H2) := by
  refine ⟨fun i m σ H => m = xs.length - i ∧ Pv i σ H, ⟨xs.length, rfl, h0⟩, fun i m σ H ⟨e, p⟩ => ?_⟩
  obtain ⟨q1, q2⟩ := hl i σ H p
  by_cases c : xs.length ≤ i ∨ ys.length ≤ i
  · exact .inl ⟨⟨xs, ys, q1, q2, c⟩, hd i σ H p c⟩
  · rw [not_or] at c
    have c1 : i < xs.length := Nat.lt_of_not_le c.1
    have c2 : i < ys.length := Nat.lt_of_not_le c.2
    refine .inr ⟨⟨xs, ys, xs[i], ys[i], q1, q2, List.getElem?_eq_getElem c1, List.getElem?_eq_getElem c2⟩, Pv (i + 1), fun σ' H' p' => ⟨xs.length - (i + 1), by omega, rfl, p'⟩, fun v H' y => ?_⟩
    obtain ⟨U, T, x, y, rfl, f1, f2, n, rfl, y1, y2⟩ := y
    exact hs i x y U T σ H (y1 xs q1) (y2 ys q2) p f1 f2 n
def vOpt : Option Nat → V
  | some k => .int (k : Nat)
  | none => .non
def spParts (A : Ad) : Sp := fun vs H Q _ => ∃ (g o : Addr) (m n : GM), vs = [.ref g, .ref o] ∧ GameR A H g m ∧ GameR A H o n ∧ ∀ H', Same H H' → Q (vOpt (m.parts n)) H'
theorem parts_some {m n : GM} {i : Nat} {c d : CM} (h1 : m.caves[i]? = some c) (h2 : n.caves[i]? = some d) (hl : c.like d = false) (hp : ∀ j c d, j < i → m.caves[j]? = some c → n.caves[j]? = some d → c.like d = true) : m.parts n = some i := by
  unfold GM.parts
  have hz : (m.caves.zip n.caves)[i]? = some (c, d) := List.getElem?_zip_eq_some.mpr ⟨h1, h2⟩
  obtain ⟨lt, e⟩ := List.getElem?_eq_some_iff.mp hz
  refine List.findIdx?_eq_some_iff_getElem.mpr ⟨lt, by rw [e]; simp [hl], fun j hj => ?_⟩
  have q : (m.caves.zip n.caves)[j]? = some ((m.caves.zip n.caves)[j]'(Nat.lt_trans hj lt)) := List.getElem?_eq_getElem _
  have z := List.getElem?_zip_eq_some.mp q
  have := hp j _ _ hj z.1 z.2
  rw [this]; decide
theorem parts_none {m n : GM} {i : Nat} (h : m.caves.length ≤ i ∨ n.caves.length ≤ i) (hp : ∀ j c d, j < i → m.caves[j]? = some c → n.caves[j]? = some d → c.like d = true) : m.parts n = none := by
  unfold GM.parts
  refine List.findIdx?_eq_none_iff.mpr fun p hp' => ?_
  obtain ⟨j, hj⟩ := List.getElem?_of_mem hp'
  have z := List.getElem?_zip_eq_some.mp hj
  have l1 := (List.getElem?_eq_some_iff.mp z.1).1
  have l2 := (List.getElem?_eq_some_iff.mp z.2).1
  have := hp j _ _ (by omega) z.1 z.2
  simp [this]
section
variable {P : Program} {w : World} {K : PySem.W.Frag} {mg : Str → Option Value} {base : Heap} {A : Ad}
theorem sc_Game_parts_from : FnScope ["self", "other", "k", "cave", "another"] ["self", "other"] (defScope (inClass (topS 39) 12)) := ⟨rfl, rfl, rfl, by decide +kernel, rfl, by decide +kernel, by decide +kernel⟩
theorem m_Game_parts_from (T : Txt K mg A) : MethOk P w K mg base CX0 2 A.game "parts_from" ["self", "other"] (spParts A) := by
  refine T.d_Game_parts_from.ok (N := ["self", "other", "k", "cave", "another"]) sc_Game_parts_from (fun vs H Q E h => (by first | (obtain ⟨rfl, _⟩ := h; rfl) | (obtain ⟨_, rfl, _⟩ := h; rfl) | (obtain ⟨_, _, rfl, _⟩ := h; rfl) | (obtain ⟨_, _, _, rfl, _⟩ := h; rfl) | (obtain ⟨_, _, _, _, rfl, _⟩ := h; rfl) | (obtain ⟨_, _, _, _, _, rfl, _⟩ := h; rfl) | (obtain ⟨_, _, _, _, _, _, rfl, _⟩ := h; rfl) | (obtain ⟨_, _, _, _, _, _, _, rfl, _⟩ := h; rfl) | (obtain ⟨_, _, _, _, _, _, _, _, rfl, _⟩ := h; rfl) | (obtain ⟨_, _, _, _, _, _, _, _, _, rfl, _⟩ := h; rfl) | (obtain ⟨_, _, _, _, _, _, _, _, _, _, rfl, _⟩ := h; rfl) | (obtain ⟨_, _, _, _, _, _, _, _, _, _, _, rfl, _⟩ := h; rfl) | (obtain ⟨_, _, _, _, _, _, _, _, _, _, _, _, rfl, _⟩ := h; rfl) | (obtain ⟨_, _, _, _, _, _, _, _, _, _, _, _, _, rfl, _⟩ := h; rfl) | (obtain ⟨rfl⟩ := h; rfl) | (obtain ⟨_, rfl⟩ := h; rfl) | (obtain ⟨_, _, rfl⟩ := h; rfl) | (obtain ⟨_, _, _, rfl⟩ := h; rfl) | (obtain ⟨_, _, _, _, rfl⟩ := h; rfl) | (obtain ⟨_, _, _, _, _, rfl⟩ := h; rfl) | (obtain ⟨_, _, _, _, _, _, rfl⟩ := h; rfl) | (obtain ⟨_, _, _, _, _, _, _, rfl⟩ := h; rfl) | (obtain ⟨_, _, _, _, _, _, _, _, rfl⟩ := h; rfl) | (obtain ⟨_, _, _, _, _, _, _, _, _, rfl⟩ := h; rfl) | (obtain ⟨_, _, _, _, _, _, _, _, _, _, rfl⟩ := h; rfl) | (obtain ⟨_, _, _, _, _, _, _, _, _, _, _, rfl⟩ := h; rfl) | (obtain ⟨_, _, _, _, _, _, _, _, _, _, _, _, rfl⟩ := h; rfl) | (obtain ⟨_, _, _, _, _, _, _, _, _, _, _, _, _, rfl⟩ := h; rfl))) (fun _ _ _ _ _ _ us hl => match us, hl with | [_, _], _ => rfl) (fun f cdv A0 outer s H vs Q E hr h => ⟨_, (pss_cons (ps_for PassesOwn.never rfl (pi_ez rfl T.b_enumerate rfl T.b_zip (pa_cons (pe_get (ks := kGame) (i := 0) T.cGame T.nGame_caves (by decide +kernel) (pv 0)) (pa_cons (pe_get (ks := kGame) (i := 0) T.cGame T.nGame_caves (by decide +kernel) (pv 1)) pa_nil))) (pg_tup rfl (pgs_cons (pg_name (i := 2) sc_Game_parts_from.nd rfl (by first | exact Or.inl rfl | exact Or.inr rfl)) (pgs_cons (pg_tup rfl (pgs_cons (pg_name (i := 3) sc_Game_parts_from.nd rfl (by first | exact Or.inl rfl | exact Or.inr rfl)) (pgs_cons (pg_name (i := 4) sc_Game_parts_from.nd rfl (by first | exact Or.inl rfl | exact Or.inr rfl)) pgs_nil))) pgs_nil))) (pss_one (ps_if (pt_not (pt_val (pe_mth (ks := kCave) T.cCave (by decide +kernel) (m_Cave_is_like T) (hr.mono (by decide)) pass0 (pv 3) (pa_cons (pv 4) pa_nil)))) (pss_one (ps_ret (pv 2))) pss_nil)))
      (pss_one (ps_ret pe_non))), ?_⟩)
  obtain ⟨g, o, m, n, rfl, ⟨as, ⟨dx, cl, pl, h1, h2, h3⟩, hC⟩, ⟨as2, ⟨dx2, cl2, pl2, h4, h5, h6⟩, hC2⟩, k⟩ := h
  refine ⟨_, rfl, _, _, _, _, rfl, h1, rfl, _, rfl, _, _, _, _, rfl, h4, rfl, cl, cl2, _, _, rfl, SqL.of h2, SqL.of h5, ?_⟩
  refine for_ez (xs := vr as) (ys := vr as2) (fun i σ H' => ∃ o1 o2 o3, σ = [some (.ref g), some (.ref o), o1, o2, o3] ∧ Same H H' ∧ ∀ j c d, j < i → m.caves[j]? = some c → n.caves[j]? = some d → c.like d = true)
    ⟨none, none, none, rfl, fun _ _ q => q, fun j _ _ hj => absurd hj (Nat.not_lt_zero _)⟩ ?_ ?_ ?_
  · rintro i σ H1 ⟨o1, o2, o3, rfl, s1, hp⟩
    exact ⟨SqL.of (s1 _ _ h2), SqL.of (s1 _ _ h5)⟩
  · rintro i x y U V σ H1 hx hy ⟨o1, o2, o3, rfl, s1, hp⟩ hU hV hUV
    have hi : i < m.caves.length := by
      have := (List.getElem?_eq_some_iff.mp hx).1
      rw [vr_len, hC.len] at this; exact this
    have hi2 : i < n.caves.length := by
      have := (List.getElem?_eq_some_iff.mp hy).1
      rw [vr_len, hC2.len] at this; exact this
    obtain ⟨a, ha, ca⟩ := hC.get (List.getElem?_eq_getElem hi)
    obtain ⟨a2, ha2, ca2⟩ := hC2.get (List.getElem?_eq_getElem hi2)
    have ex : x = .ref a := Option.some.inj (hx.symm.trans (vr_get ha))
    have ey : y = .ref a2 := Option.some.inj (hy.symm.trans (vr_get ha2))
    subst ex ey
    have s2 : Same H (upd (upd H1 U (.tup [.ref a, .ref a2])) V (.tup [.int (i : Nat), .ref U])) := fun b u q => by
      rw [upd_ne (ne_of_none (s1 _ _ q) hV), upd_ne (ne_of_none (s1 _ _ q) hU)]; exact s1 _ _ q
    refine ⟨V, _, rfl, .inl (.inl upd_same), rfl, _, _, rfl, _, _, rfl, ⟨U, _, rfl, .inl (.inl (by rw [upd_ne hUV]; exact upd_same)), rfl, _, _, rfl, _, _, rfl, rfl, rfl, ?_⟩⟩
    have ca' := ca.mono s2
    have ca2' := ca2.mono s2
    generalize upd (upd H1 U (.tup [.ref a, .ref a2])) V (.tup [.int (i : Nat), .ref U]) = H2 at s2 ca' ca2'
    obtain ⟨d1, c1, q1, q2⟩ := id ca'
    refine ⟨_, rfl, _, _, _, rfl, q1, _, rfl, a, a2, _, _, rfl, ca', ca2', fun H3 s3 => ⟨_, rfl, ?_⟩⟩
    refine if_b (fun c => ?_) fun c => ?_
    · refine ⟨_, rfl, ?_⟩
      have z := k H3 fun b u q => s3 _ _ (s2 _ _ q)
      rw [parts_some (List.getElem?_eq_getElem hi) (List.getElem?_eq_getElem hi2) (by simpa using c) hp] at z
      exact z
    · refine ⟨_, _, _, rfl, fun b u q => s3 _ _ (s2 _ _ q), fun j c' d' hj e1 e2 => ?_⟩
      rcases Nat.lt_succ_iff_lt_or_eq.mp hj with l | l
      · exact hp j c' d' l e1 e2
      · subst l
        rw [List.getElem?_eq_getElem hi] at e1
        rw [List.getElem?_eq_getElem hi2] at e2
        cases e1
        cases e2
        simpa using c
  · rintro i σ H1 ⟨o1, o2, o3, rfl, s1, hp⟩ hend
    have z := k H1 s1
    rw [parts_none (i := i) (by rw [← hC.len, ← hC2.len]; rw [vr_len, vr_len] at hend; exact hend) hp] at z
    exact z
end
end SC
/-! SC15: refusals; a desk. -/
namespace SC
open PySem PySem.Spec PyProof.Rows L2
def spRefI (A : Ad) : Sp := fun vs H Q _ => ∃ (a : Addr) (n : Int), vs = [.ref a, .int n] ∧ H a = some (exo a A.refd none) ∧ ∀ dx, H dx = none → dx ≠ a → Q .non (upd (upd H dx (exd dx [("number", .int n)])) a (exo a A.refd (some dx)))
/-- what is let out: a refusal with its number -/
def Let (A : Ad) (H : Hp) (E : XK) (n : Int) : Prop := ∀ H' d, Same H H' → H' d = some (.xd [("number", .int n)]) → E (.ref A.refd) (some d) H'
theorem Let.mono {A : Ad} {H H1 : Hp} {E : XK} {n : Int} (h : Let A H E n) (e : Same H H1) : Let A H1 E n := fun H' d s q => h H' d (fun b o z => s _ _ (e _ _ z)) q
def spRefuse (A : Ad) : Sp := fun vs H Q E => ∃ (b : Bool) (n : Int), vs = [.bl b, .int n] ∧ (b = false → Q .non H) ∧ (b = true → Let A H E n)
def spCounted : Sp := fun vs H Q _ => ∃ (a : Addr) (l : List Nat), vs = [.ref a] ∧ H a = some (.lst (vi l)) ∧ l.length ≤ 100000 ∧ ∀ H' p, Same H H' → H p = none → H' p = some (.lst (vi (l.length :: l))) → Q (.ref p) H'
section
variable {P : Program} {w : World} {K : PySem.W.Frag} {mg : Str → Option Value} {base : Heap} {A : Ad}
theorem sc_Refused___init__ : FnScope ["self", "number"] ["self", "number"] (defScope (inClass (topS 56) 0)) := ⟨rfl, rfl, rfl, by decide +kernel, rfl, by decide +kernel, by decide +kernel⟩
theorem sc_refuse : FnScope ["bad", "number"] ["bad", "number"] (defScope (topS 57)) := ⟨rfl, rfl, rfl, by decide +kernel, rfl, by decide +kernel, by decide +kernel⟩
theorem sc_counted : FnScope ["row"] ["row"] (defScope (topS 58)) := ⟨rfl, rfl, rfl, by decide +kernel, rfl, by decide +kernel, by decide +kernel⟩
theorem i_Refused (T : Txt K mg A) : ∃ fd, FnOk P w K mg base CX0 1 A.refI fd ["self", "number"] (spRefI A) ∧ Binds K fd ["self", "number"] [] := by
  obtain ⟨fd, F⟩ := T.d_Refused
  refine ⟨fd, F.ok (N := ["self", "number"]) (k := 0) sc_Refused___init__ (fun vs H Q E h => (by first | (obtain ⟨rfl, _⟩ := h; rfl) | (obtain ⟨_, rfl, _⟩ := h; rfl) | (obtain ⟨_, _, rfl, _⟩ := h; rfl) | (obtain ⟨_, _, _, rfl, _⟩ := h; rfl) | (obtain ⟨_, _, _, _, rfl, _⟩ := h; rfl) | (obtain ⟨_, _, _, _, _, rfl, _⟩ := h; rfl) | (obtain ⟨_, _, _, _, _, _, rfl, _⟩ := h; rfl) | (obtain ⟨_, _, _, _, _, _, _, rfl, _⟩ := h; rfl) | (obtain ⟨_, _, _, _, _, _, _, _, rfl, _⟩ := h; rfl) | (obtain ⟨_, _, _, _, _, _, _, _, _, rfl, _⟩ := h; rfl) | (obtain ⟨_, _, _, _, _, _, _, _, _, _, rfl, _⟩ := h; rfl) | (obtain ⟨_, _, _, _, _, _, _, _, _, _, _, rfl, _⟩ := h; rfl) | (obtain ⟨_, _, _, _, _, _, _, _, _, _, _, _, rfl, _⟩ := h; rfl) | (obtain ⟨_, _, _, _, _, _, _, _, _, _, _, _, _, rfl, _⟩ := h; rfl) | (obtain ⟨rfl⟩ := h; rfl) | (obtain ⟨_, rfl⟩ := h; rfl) | (obtain ⟨_, _, rfl⟩ := h; rfl) | (obtain ⟨_, _, _, rfl⟩ := h; rfl) | (obtain ⟨_, _, _, _, rfl⟩ := h; rfl) | (obtain ⟨_, _, _, _, _, rfl⟩ := h; rfl) | (obtain ⟨_, _, _, _, _, _, rfl⟩ := h; rfl) | (obtain ⟨_, _, _, _, _, _, _, rfl⟩ := h; rfl) | (obtain ⟨_, _, _, _, _, _, _, _, rfl⟩ := h; rfl) | (obtain ⟨_, _, _, _, _, _, _, _, _, rfl⟩ := h; rfl) | (obtain ⟨_, _, _, _, _, _, _, _, _, _, rfl⟩ := h; rfl) | (obtain ⟨_, _, _, _, _, _, _, _, _, _, _, rfl⟩ := h; rfl) | (obtain ⟨_, _, _, _, _, _, _, _, _, _, _, _, rfl⟩ := h; rfl) | (obtain ⟨_, _, _, _, _, _, _, _, _, _, _, _, _, rfl⟩ := h; rfl))) (fun cdv A0 outer s H vs Q E hr h => ⟨_, (pss_cons (ps_expr (pe_veinit (by rfl) T.b_ValueError T.veI (pa_cons (pv 0) (pa_cons pe_str pa_nil))))
      (pss_one (ps_ost (pv 0) (pv 1)))), ?_⟩), F.binds (fun _ _ _ _ _ _ us hl => match us, hl with | [_, _], _ => rfl)⟩
  obtain ⟨a, n, rfl, ha, k⟩ := h
  exact ⟨_, rfl, a, A.refd, _, rfl, by show 1 ≤ 1000; decide, T.oex, ha, _, rfl, _, rfl, a, A.refd, rfl, T.oex, T.nRefused_number, .inl ⟨ha, k⟩⟩
theorem g_refuse (T : Txt K mg A) : CallOk P w K mg base (L2.CX P w) 3 "refuse" ["bad", "number"] (spRefuse A) := by
  obtain ⟨fd, FR, bR⟩ := i_Refused (P := P) (w := w) (base := base) T
  refine T.d_refuse.okX (N := ["bad", "number"]) sc_refuse (fun vs H Q E h => (by first | (obtain ⟨rfl, _⟩ := h; rfl) | (obtain ⟨_, rfl, _⟩ := h; rfl) | (obtain ⟨_, _, rfl, _⟩ := h; rfl) | (obtain ⟨_, _, _, rfl, _⟩ := h; rfl) | (obtain ⟨_, _, _, _, rfl, _⟩ := h; rfl) | (obtain ⟨_, _, _, _, _, rfl, _⟩ := h; rfl) | (obtain ⟨_, _, _, _, _, _, rfl, _⟩ := h; rfl) | (obtain ⟨_, _, _, _, _, _, _, rfl, _⟩ := h; rfl) | (obtain ⟨_, _, _, _, _, _, _, _, rfl, _⟩ := h; rfl) | (obtain ⟨_, _, _, _, _, _, _, _, _, rfl, _⟩ := h; rfl) | (obtain ⟨_, _, _, _, _, _, _, _, _, _, rfl, _⟩ := h; rfl) | (obtain ⟨_, _, _, _, _, _, _, _, _, _, _, rfl, _⟩ := h; rfl) | (obtain ⟨_, _, _, _, _, _, _, _, _, _, _, _, rfl, _⟩ := h; rfl) | (obtain ⟨_, _, _, _, _, _, _, _, _, _, _, _, _, rfl, _⟩ := h; rfl) | (obtain ⟨rfl⟩ := h; rfl) | (obtain ⟨_, rfl⟩ := h; rfl) | (obtain ⟨_, _, rfl⟩ := h; rfl) | (obtain ⟨_, _, _, rfl⟩ := h; rfl) | (obtain ⟨_, _, _, _, rfl⟩ := h; rfl) | (obtain ⟨_, _, _, _, _, rfl⟩ := h; rfl) | (obtain ⟨_, _, _, _, _, _, rfl⟩ := h; rfl) | (obtain ⟨_, _, _, _, _, _, _, rfl⟩ := h; rfl) | (obtain ⟨_, _, _, _, _, _, _, _, rfl⟩ := h; rfl) | (obtain ⟨_, _, _, _, _, _, _, _, _, rfl⟩ := h; rfl) | (obtain ⟨_, _, _, _, _, _, _, _, _, _, rfl⟩ := h; rfl) | (obtain ⟨_, _, _, _, _, _, _, _, _, _, _, rfl⟩ := h; rfl) | (obtain ⟨_, _, _, _, _, _, _, _, _, _, _, _, rfl⟩ := h; rfl) | (obtain ⟨_, _, _, _, _, _, _, _, _, _, _, _, _, rfl⟩ := h; rfl))) (fun _ _ _ _ _ _ us hl => match us, hl with | [_, _], _ => rfl) (fun f cdv A0 outer s H vs Q E hr h => ⟨_, (pss_one (ps_if (pt_val (pv 0)) (pss_one (ps_raise rfl (takes_of rfl rfl rfl rfl) (pmk_oex T.oex T.iRefused T.tRefused FR (hr.mono (by decide)) bR .nil pass0 rfl T.gRefused (pa_cons (pv 1) pa_nil)))) pss_nil)), ?_⟩)
  obtain ⟨b, n, rfl, k1, k2⟩ := h
  refine ⟨_, rfl, ?_⟩
  cases b with
  | false => exact ⟨false, rfl, k1 rfl⟩
  | true =>
    refine ⟨true, rfl, ?_⟩
    refine if_y rfl ⟨_, rfl, by show 1 ≤ 1000; decide, fun a ha => ?_⟩
    refine ⟨a, n, rfl, upd_same, fun dx hdx ne => ⟨rfl, dx, _, upd_same, by rw [upd_ne ne]; exact upd_same, ?_, ?_⟩⟩
    · rw [upd_ne ne] at hdx; exact hdx
    · refine k2 rfl _ dx (fun b o q => ?_) upd_same
      rw [upd_ne ne] at hdx
      have n1 : b ≠ a := ne_of_none q ha
      have n2 : b ≠ dx := ne_of_none q hdx
      rw [upd_ne n2, del_ne n1, upd_ne n1, upd_ne n2, upd_ne n1]
      exact q
theorem g_counted (T : Txt K mg A) : CallOk P w K mg base CX0 1 "counted" ["row"] spCounted := by
  refine T.d_counted.ok (N := ["row"]) sc_counted (fun vs H Q E h => (by first | (obtain ⟨rfl, _⟩ := h; rfl) | (obtain ⟨_, rfl, _⟩ := h; rfl) | (obtain ⟨_, _, rfl, _⟩ := h; rfl) | (obtain ⟨_, _, _, rfl, _⟩ := h; rfl) | (obtain ⟨_, _, _, _, rfl, _⟩ := h; rfl) | (obtain ⟨_, _, _, _, _, rfl, _⟩ := h; rfl) | (obtain ⟨_, _, _, _, _, _, rfl, _⟩ := h; rfl) | (obtain ⟨_, _, _, _, _, _, _, rfl, _⟩ := h; rfl) | (obtain ⟨_, _, _, _, _, _, _, _, rfl, _⟩ := h; rfl) | (obtain ⟨_, _, _, _, _, _, _, _, _, rfl, _⟩ := h; rfl) | (obtain ⟨_, _, _, _, _, _, _, _, _, _, rfl, _⟩ := h; rfl) | (obtain ⟨_, _, _, _, _, _, _, _, _, _, _, rfl, _⟩ := h; rfl) | (obtain ⟨_, _, _, _, _, _, _, _, _, _, _, _, rfl, _⟩ := h; rfl) | (obtain ⟨_, _, _, _, _, _, _, _, _, _, _, _, _, rfl, _⟩ := h; rfl) | (obtain ⟨rfl⟩ := h; rfl) | (obtain ⟨_, rfl⟩ := h; rfl) | (obtain ⟨_, _, rfl⟩ := h; rfl) | (obtain ⟨_, _, _, rfl⟩ := h; rfl) | (obtain ⟨_, _, _, _, rfl⟩ := h; rfl) | (obtain ⟨_, _, _, _, _, rfl⟩ := h; rfl) | (obtain ⟨_, _, _, _, _, _, rfl⟩ := h; rfl) | (obtain ⟨_, _, _, _, _, _, _, rfl⟩ := h; rfl) | (obtain ⟨_, _, _, _, _, _, _, _, rfl⟩ := h; rfl) | (obtain ⟨_, _, _, _, _, _, _, _, _, rfl⟩ := h; rfl) | (obtain ⟨_, _, _, _, _, _, _, _, _, _, rfl⟩ := h; rfl) | (obtain ⟨_, _, _, _, _, _, _, _, _, _, _, rfl⟩ := h; rfl) | (obtain ⟨_, _, _, _, _, _, _, _, _, _, _, _, rfl⟩ := h; rfl) | (obtain ⟨_, _, _, _, _, _, _, _, _, _, _, _, _, rfl⟩ := h; rfl))) (fun _ _ _ _ _ _ us hl => match us, hl with | [_], _ => rfl) (fun f cdv A0 outer s H vs Q E hr h => ⟨_, (pss_one (ps_ret (pe_op op_cat (pe_lst (pa_cons (pe_callB call_len_seq (by rfl) T.b_len PySem.boot_len (pa_cons (pv 0) pa_nil)) pa_nil)) (pv 0)))), ?_⟩)
  obtain ⟨a, l, rfl, h1, hl, k⟩ := h
  refine ⟨_, rfl, _, _, rfl, .inl (SqL.of h1), (by show 1 ≤ sizeLine; decide), fun p hp => ⟨_, rfl, p, a, _, _, rfl, rfl, upd_same, same_new hp _ _ h1, ?_, fun q hq => ?_⟩⟩
  · rw [vi_len]
    have : (100001 : Nat) ≤ sizeLine := by decide
    show 1 + l.length ≤ sizeLine
    omega
  · have s1 : Same H (upd H p (.lst [.int (vi l).length])) := same_new hp
    have hq0 : H q = none := by
      cases z : H q with
      | none => rfl
      | some o => rw [s1 _ _ z] at hq; cases hq
    refine k _ q (same_up s1 hq0) hq0 ?_
    rw [upd_same, vi_len]
    rfl
end
end SC
/-! SC16: a desk: mirror, what stands. -/
namespace SC
open PySem PySem.Spec PyProof.Rows L2
structure DeskM where
  game : GM
  kept : Nat → Option GM
structure DeskM.Ok (m : DeskM) : Prop where
  g : m.game.Ok
  k : ∀ j g, m.kept j = some g → g.Ok
/-- how many are kept among the first n places -/
def cnt (f : Nat → Option GM) : Nat → Nat
  | 0 => 0
  | n + 1 => cnt f n + (if (f n).isSome = true then 1 else 0)
def putN (f : Nat → Option GM) (k : Nat) (g : GM) : Nat → Option GM := fun j => if j = k then some g else f j
theorem cnt_le (f : Nat → Option GM) : ∀ n, cnt f n ≤ n
  | 0 => Nat.le_refl _
  | n + 1 => by
    have := cnt_le f n
    show cnt f n + (if (f n).isSome = true then 1 else 0) ≤ n + 1
    split <;> omega
theorem cnt_out {f : Nat → Option GM} {k : Nat} {g : GM} : ∀ n, n ≤ k → cnt (putN f k g) n = cnt f n
  | 0, _ => rfl
  | n + 1, h => by
    have ih := cnt_out (f := f) (k := k) (g := g) n (by omega)
    show cnt (putN f k g) n + (if (putN f k g n).isSome = true then 1 else 0) = cnt f n + (if (f n).isSome = true then 1 else 0)
    rw [ih, show putN f k g n = f n from if_neg (show ¬ n = k by omega)]
theorem cnt_put {f : Nat → Option GM} {k : Nat} {g : GM} : ∀ n, k < n → cnt (putN f k g) n = cnt f n + (if (f k).isSome = true then 0 else 1)
  | 0, h => absurd h (Nat.not_lt_zero _)
  | n + 1, h => by
    show cnt (putN f k g) n + (if (putN f k g n).isSome = true then 1 else 0) = cnt f n + (if (f n).isSome = true then 1 else 0) + _
    by_cases e : n = k
    · subst e
      rw [cnt_out n (Nat.le_refl _), show putN f n g n = some g from if_pos rfl]
      cases (f n) <;> simp
    · rw [cnt_put (f := f) (k := k) (g := g) n (by omega), show putN f k g n = f n from if_neg e]
      omega
/-- the kept games, by their numbers -/
def KeptL (A : Ad) (H : Hp) (kvs : List (Key × V)) (kept : Nat → Option GM) : Prop :=
  ∀ j : Nat, (kept j = none ∧ valV kvs (.inl (j : Int)) = none) ∨ ∃ m a, kept j = some m ∧ valV kvs (.inl (j : Int)) = some (.ref a) ∧ GameR A H a m
theorem KeptL.mono {A : Ad} {H H' : Hp} {kvs : List (Key × V)} {kept : Nat → Option GM} (h : KeptL A H kvs kept) (e : Same H H') : KeptL A H' kvs kept := fun j => by
  rcases h j with q | ⟨m, a, q1, q2, q3⟩
  · exact .inl q
  · exact .inr ⟨m, a, q1, q2, q3.mono e⟩
/-- own but Z: what a desk may change -/
def wk (Z own : List Addr) : List Addr := own.filter fun b => decide (b ∉ Z)
theorem mem_wk {Z own : List Addr} {b : Addr} : b ∈ wk Z own ↔ b ∈ own ∧ b ∉ Z := by unfold wk; rw [List.mem_filter, decide_eq_true_eq]
/-- the desk at d, its table at kd; what is in own is not in the kept games nor a cave; what is in Z is own, but no part of the desk -/
structure DeskAt (A : Ad) (Z : List Addr) (H : Hp) (own : List Addr) (d kd : Addr) (m : DeskM) : Prop where
  ex : ∃ dx g cl pl kvs, H d = some (.ins A.desk dx (kz kDesk [.ref g, .ref kd])) ∧ GameAt A H own g cl pl m.game ∧ H kd = some (.dK kvs) ∧ KeptL A (hide own H) kvs m.kept ∧ kvs.length = cnt m.kept 10 ∧ ∀ b ∈ [g, cl, pl], b ∉ Z
  wd : d ∈ wk Z own
  wkd : kd ∈ wk Z own
  zo : ∀ z ∈ Z, z ∈ own
section
variable {A : Ad} {Z : List Addr} {H H1 H' : Hp} {own own1 : List Addr} {d kd g cl pl cl1 pl1 dx : Addr} {m : DeskM} {gm : GM} {kvs : List (Key × V)}
theorem DeskAt.live (h : DeskAt A Z H own d kd m) : ∀ b ∈ own, ∃ o, H b = some o := let ⟨_, _, _, _, _, _, hG, _⟩ := h.ex; hG.live
theorem DeskAt.od (h : DeskAt A Z H own d kd m) : d ∈ own := (mem_wk.mp h.wd).1
theorem DeskAt.ok (h : DeskAt A Z H own d kd m) : kd ∈ own := (mem_wk.mp h.wkd).1
theorem not_own (l : ∀ b ∈ own, ∃ o, H b = some o) {p : Addr} (h : H p = none) : p ∉ own := fun z => by
  obtain ⟨o, q⟩ := l p z
  rw [h] at q; cases q
theorem DeskAt.mono (h : DeskAt A Z H own d kd m) (e : Same H H') : DeskAt A Z H' own d kd m := by
  obtain ⟨dx, g, cl, pl, kvs, h1, h2, h3, h4, h5, h6⟩ := h.ex
  exact ⟨⟨dx, g, cl, pl, kvs, e _ _ h1, h2.mono e, e _ _ h3, h4.mono (hide_same (W := []) (Fr.same e) (by simp) fun b z => .inl z), h5, h6⟩, h.wd, h.wkd, h.zo⟩
theorem DeskAt.zl (h : DeskAt A Z H own d kd m) {b : Addr} (n : H b = none) : b ∉ Z := fun z => by
  obtain ⟨o, q⟩ := h.live b (h.zo b z)
  rw [n] at q; cases q
theorem wk_inc (inc : ∀ b ∈ own, b ∈ own1) {b : Addr} (h : b ∈ wk Z own) : b ∈ wk Z own1 := mem_wk.mpr ⟨inc _ (mem_wk.mp h).1, (mem_wk.mp h).2⟩
theorem ndg (hd : H d = some (.ins A.desk dx (kz kDesk [.ref g, .ref kd]))) {g' dx' : Addr} (hg : H g' = some (.ins A.game dx' (kz kGame (gmF cl pl gm)))) : d ≠ g' :=
  ne_of hd hg fun z => by
    have q := congrArg List.length (HO.ins.inj z).2.2
    simp [kz, kDesk, kGame, gmF] at q
theorem mem3 {a b c x : Addr} (h : x ∈ [a, b, c]) : x = a ∨ x = b ∨ x = c := by simpa using h
theorem nd3 (hd : H d = some (.ins A.desk dx (kz kDesk [.ref g, .ref kd]))) {g' : Addr} (hG : GameAt A H own g' cl pl gm) : d ∉ [g', cl, pl] := fun z => by
  obtain ⟨dx', as, h1, h2, h3, _⟩ := hG.ex
  rcases mem3 z with q | q | q
  · exact ndg hd h1 q
  · exact ne_of hd h2 (by intro z; cases z) q
  · exact ne_of hd h3 (by intro z; cases z) q
theorem nk3 (hk : H kd = some (.dK kvs)) (hG : GameAt A H own g cl pl gm) : kd ∉ [g, cl, pl] := fun z => by
  obtain ⟨dx', as, h1, h2, h3, _⟩ := hG.ex
  rcases mem3 z with q | q | q
  · exact ne_of hk h1 (by intro z; cases z) q
  · exact ne_of hk h2 (by intro z; cases z) q
  · exact ne_of hk h3 (by intro z; cases z) q
/-- the game has changed in its place -/
theorem DeskAt.regame (hD : DeskAt A Z H own d kd m) (hd : H d = some (.ins A.desk dx (kz kDesk [.ref g, .ref kd]))) (hG : GameAt A H own g cl pl m.game) (hk : H kd = some (.dK kvs)) (hK : KeptL A (hide own H) kvs m.kept) (hc : kvs.length = cnt m.kept 10) (hz : ∀ b ∈ [g, cl, pl], b ∉ Z)
    (hG1 : GameAt A H1 own1 g cl1 pl1 gm) (f : Fr [g, cl, pl] H H1) (sub : Sub own H own1) (inc : ∀ b ∈ own, b ∈ own1) (n1 : ∀ b ∈ [cl1, pl1], b ∈ [g, cl, pl] ∨ H b = none) : DeskAt A Z H1 own1 d kd { m with game := gm } :=
  ⟨⟨dx, g, cl1, pl1, kvs, f _ _ hd (nd3 hd hG), hG1, f _ _ hk (nk3 hk hG), hK.mono (hide_same f hG.sub sub), hc, fun b hb => by
    rcases List.mem_cons.mp hb with q | q
    · rw [q]; exact hz g (by simp)
    · rcases n1 b q with q | q
      · exact hz b q
      · exact hD.zl q⟩, wk_inc inc hD.wd, wk_inc inc hD.wkd, fun z hz => inc _ (hD.zo z hz)⟩
theorem old2 {H : Hp} {g cl pl : Addr} : ∀ b ∈ [cl, pl], b ∈ [g, cl, pl] ∨ H b = none := fun b h => .inl (List.mem_cons_of_mem _ h)
theorem wk3 (hG : GameAt A H own g cl pl gm) (hz : ∀ b ∈ [g, cl, pl], b ∉ Z) : ∀ b ∈ [g, cl, pl], b ∈ wk Z own := fun b h => mem_wk.mpr ⟨hG.sub b h, hz b h⟩
theorem GameAt.other {b : Addr} {o : HO} (h : GameAt A H own g cl pl gm) (hb : b ∈ own) (n : b ∉ [g, cl, pl]) : GameAt A (L2.upd H b o) own g cl pl gm := by
  obtain ⟨dx, as, h1, h2, h3, h4⟩ := h.ex
  have f : Fr [b] H (L2.upd H b o) := (Fr.refl _ _).upd (by simp)
  simp only [List.mem_cons, List.not_mem_nil, or_false, not_or] at n
  refine ⟨⟨dx, as, f _ _ h1 (by simpa using Ne.symm n.1), f _ _ h2 (by simpa using Ne.symm n.2.1), f _ _ h3 (by simpa using Ne.symm n.2.2), h4.mono (hide_same f (fun x z => by rw [List.mem_singleton.mp z]; exact hb) fun x z => .inl z)⟩, fun x z => ?_, h.og, h.oc, h.op, h.ne⟩
  by_cases e : x = b
  · rw [e]; exact ⟨_, upd_same⟩
  · obtain ⟨u, q⟩ := h.live x z
    exact ⟨u, by rw [upd_ne e]; exact q⟩
/-- another game takes its place -/
theorem DeskAt.newgame {g1 : Addr} (hD : DeskAt A Z H own d kd m) (hd : H d = some (.ins A.desk dx (kz kDesk [.ref g, .ref kd]))) (hk : H kd = some (.dK kvs)) (hK : KeptL A (hide own H) kvs m.kept) (hc : kvs.length = cnt m.kept 10)
    (s : Same H H1) (hG1 : GameAt A H1 own1 g1 cl1 pl1 gm) (sub : Sub own H own1) (inc : ∀ b ∈ own, b ∈ own1) (n1 : ∀ b ∈ [g1, cl1, pl1], H b = none) : DeskAt A Z (upd H1 d (.ins A.desk dx (kz kDesk [.ref g1, .ref kd]))) own1 d kd { m with game := gm } := by
  have nkd : kd ≠ d := ne_of hk hd (by intro z; cases z)
  have f : Fr [d] H (upd H1 d (.ins A.desk dx (kz kDesk [.ref g1, .ref kd]))) := (Fr.same s).upd (by simp)
  exact ⟨⟨dx, g1, cl1, pl1, kvs, upd_same, hG1.other (inc _ hD.od) (nd3 (s _ _ hd) hG1), f _ _ hk (by simpa using nkd), hK.mono (hide_same f (fun x z => by rw [List.mem_singleton.mp z]; exact hD.od) sub), hc, fun b hb => hD.zl (n1 b hb)⟩, wk_inc inc hD.wd, wk_inc inc hD.wkd, fun z hz => inc _ (hD.zo z hz)⟩
end
theorem none3 {H : Hp} {x y z : Addr} (h1 : H x = none) (h2 : H y = none) (h3 : H z = none) : ∀ b ∈ [x, y, z], H b = none := fun b hb => by
  rcases mem3 hb with q | q | q <;> rw [q] <;> assumption
theorem new_none {H H' : Hp} (s : Same H H') {p : Addr} (h : H' p = none) : H p = none := by
  cases z : H p with
  | none => rfl
  | some o => rw [s _ _ z] at h; cases h
/-- a game that was made of a new cave -/
theorem newGame_at {A : Ad} {H H1 H3 : Hp} {own : List Addr} {a x dx cl pl : Addr} {c : CM} {l : Nat} (live : ∀ b ∈ own, ∃ o, H b = some o) (cn : CaveNew A H H1 a c) (hx : H1 x = none) (hdx : H1 dx = none) (ne : dx ≠ x)
    (g3 : H3 x = some (.ins A.game dx (kz kGame [.ref cl, .ref pl, .int 0, .int l, .int 0]))) (c3 : H3 cl = some (.lst [.ref a])) (p3 : H3 pl = some (.lst [])) (f3 : Fr [x] (upd (upd H1 dx (.own x)) x (.ins A.game dx (kz [] []))) H3)
    (hcl : upd (upd H1 dx (.own x)) x (.ins A.game dx (kz [] [])) cl = none) (hpl : upd (upd H1 dx (.own x)) x (.ins A.game dx (kz [] [])) pl = none) (ncp : cl ≠ pl) :
    Same H H3 ∧ GameAt A H3 (x :: cl :: pl :: own) x cl pl (GM.new c l) ∧ H x = none ∧ H cl = none ∧ H pl = none := by
  have s2 : Same H1 (upd (upd H1 dx (.own x)) x (.ins A.game dx (kz [] []))) := same_up (same_new hdx) hx
  have s3 : Same H1 H3 := fun b o q => f3 b o (s2 b o q) (by simpa using ne_of_none q hx)
  have cl1 := new_none s2 hcl
  have pl1 := new_none s2 hpl
  have sH : Same H H3 := fun b o q => s3 _ _ (cn.same _ _ q)
  have xH := new_none cn.same hx
  have clH := new_none cn.same cl1
  have plH := new_none cn.same pl1
  refine ⟨sH, ⟨⟨dx, [a], g3, c3, p3, .cons ?_ .nil⟩, fun b hb => ?_, by simp, by simp, by simp, ncp⟩, xH, clH, plH⟩
  · obtain ⟨da, ca, q1, q2, q3, q4⟩ := cn.at_
    refine ⟨da, ca, hide_some.mpr ⟨fun z => ?_, s3 _ _ q1⟩, hide_some.mpr ⟨fun z => ?_, s3 _ _ q2⟩⟩
    · rcases List.mem_cons.mp z with z | z
      · exact ne_of_none q1 hx z
      · rcases List.mem_cons.mp z with z | z
        · exact ne_of_none q1 cl1 z
        · rcases List.mem_cons.mp z with z | z
          · exact ne_of_none q1 pl1 z
          · exact not_own live q3 z
    · rcases List.mem_cons.mp z with z | z
      · exact ne_of_none q2 hx z
      · rcases List.mem_cons.mp z with z | z
        · exact ne_of_none q2 cl1 z
        · rcases List.mem_cons.mp z with z | z
          · exact ne_of_none q2 pl1 z
          · exact not_own live q4 z
  · rcases List.mem_cons.mp hb with z | z
    · rw [z]; exact ⟨_, g3⟩
    · rcases List.mem_cons.mp z with z | z
      · rw [z]; exact ⟨_, c3⟩
      · rcases List.mem_cons.mp z with z | z
        · rw [z]; exact ⟨_, p3⟩
        · obtain ⟨o, q⟩ := live b z
          exact ⟨o, sH _ _ q⟩
theorem sub3 {own : List Addr} {H : Hp} {x y z : Addr} (h1 : H x = none) (h2 : H y = none) (h3 : H z = none) : Sub own H (x :: y :: z :: own) := fun b hb => by
  rcases List.mem_cons.mp hb with q | q
  · rw [q]; exact .inr h1
  · rcases List.mem_cons.mp q with q | q
    · rw [q]; exact .inr h2
    · rcases List.mem_cons.mp q with q | q
      · rw [q]; exact .inr h3
      · exact .inl q
theorem inc3 {own : List Addr} {x y z : Addr} : ∀ b ∈ own, b ∈ x :: y :: z :: own := fun b h => List.mem_cons_of_mem _ (List.mem_cons_of_mem _ (List.mem_cons_of_mem _ h))
/-- a copy of a game whose caves are hidden from own -/
theorem GameNew.at_ {A : Ad} {H H' : Hp} {own : List Addr} {g : Addr} {as : List Addr} {m : GM} (live : ∀ b ∈ own, ∃ o, H b = some o) (n : GameNew A H H' g as m) (hC : CavesL A (hide own H) as m.caves) :
    ∃ cl pl, GameAt A H' (g :: cl :: pl :: own) g cl pl m ∧ H cl = none ∧ H pl = none := by
  obtain ⟨dx, cl, pl, h1, h2, h3, h4, h5, h6⟩ := n.ex
  refine ⟨cl, pl, ⟨⟨dx, as, h1, h2, h3, hC.mono (hide_same (W := []) (Fr.same n.same) (by simp) (sub3 n.fg h4 h5))⟩, fun b hb => ?_, by simp, by simp, by simp, h6⟩, h4, h5⟩
  rcases List.mem_cons.mp hb with z | z
  · rw [z]; exact ⟨_, h1⟩
  · rcases List.mem_cons.mp z with z | z
    · rw [z]; exact ⟨_, h2⟩
    · rcases List.mem_cons.mp z with z | z
      · rw [z]; exact ⟨_, h3⟩
      · obtain ⟨o, q⟩ := live b z
        exact ⟨o, n.same _ _ q⟩
inductive Out where
  | no (n : Int)
  | yes (l : List Nat) (m : DeskM)
def DPost (A : Ad) (Z : List Addr) (H : Hp) (own : List Addr) (d kd : Addr) (Q : VK) (E : XK) : Out → Prop
  | .no n => Let A H E n
  | .yes l m => ∀ H' own' p, DeskAt A Z H' own' d kd m → m.Ok → Sub own H own' → Fr (wk Z own) H H' → H' p = some (.lst (vi l)) → p ∉ own' → H p = none → Q (.ref p) H'
section
variable {A : Ad} {Z : List Addr} {H H1 H' : Hp} {own own1 : List Addr} {d kd p : Addr} {Q : VK} {E : XK} {m m' : DeskM} {l : List Nat} {n : Int} {o : Out}
theorem DPost.mono (k : DPost A Z H own d kd Q E o) (s : Same H H1) : DPost A Z H1 own d kd Q E o := by
  cases o with
  | no n => exact Let.mono k s
  | yes l m => exact fun H' own' p h1 h2 h3 h4 h5 h6 h7 => k H' own' p h1 h2 (fun b z => (h3 b z).imp id fun q => new_none s q) (fun b o q n => h4 b o (s _ _ q) n) h5 h6 (new_none s h7)
theorem DPost.fin (k : DPost A Z H own d kd Q E (.yes l m')) (hD : DeskAt A Z H1 own1 d kd m') (ok : m'.Ok) (sub : Sub own H own1) (inc : ∀ b ∈ own, b ∈ own1) (fr : Fr (wk Z own) H H1) (s : Same H1 H') (hp : H' p = some (.lst (vi l))) (hn : H1 p = none) : Q (.ref p) H' := by
  have np := not_own hD.live hn
  refine k H' own1 p (hD.mono s) ok sub (fr.trans (Fr.same s)) hp np ?_
  cases z : H p with
  | none => rfl
  | some o => rw [fr _ _ z fun q => np (inc _ (mem_wk.mp q).1)] at hn; cases hn
theorem DPost.same (k : DPost A Z H own d kd Q E (.yes l m)) (hD : DeskAt A Z H own d kd m) (ok : m.Ok) (s : Same H H') (hp : H' p = some (.lst (vi l))) (hn : H p = none) : Q (.ref p) H' :=
  k.fin hD ok (fun b z => .inl z) (fun b z => z) (Fr.refl _ _) s hp hn
end
/-! ### what the calls answer -/
def GM.stands (g : GM) : List Nat := g.stood g.keys.length
def dHold (m : DeskM) (k : Nat) : Out := if 4 < k then .no (-1) else .yes [0] { m with game := { m.game with held := k } }
def GM.need (g : GM) (n : Nat) : Bool := decide (g.now.st = 0 ∧ 400 < g.keys.length + n)
def dFrame (m : DeskM) (p : Nat) : Out := if 1000 < p then .no (-1) else if m.game.need (m.game.due p) = true then .no (-5) else .yes ((m.game.frame p).stands ++ [(m.game.frame p).left]) { m with game := m.game.frame p }
def dSpeed (m : DeskM) (s : Nat) : Out := if 1 ≤ s ∧ s ≤ 100 then .yes [0] { m with game := m.game.takeLen s } else .no (-1)
def dSave (m : DeskM) (n : Nat) : Out := if 9 < n then .no (-1) else .yes [m.game.keys.length] { m with kept := putN m.kept n m.game }
def dLoad (m : DeskM) (n : Nat) : Out := match m.kept n with
  | none => .no (-2)
  | some g => .yes (g.stands ++ [g.left]) { m with game := g }
def dPlace (m : DeskM) (x y : Nat) : Out := if m.game.now.w ≤ x ∨ m.game.now.h ≤ y then .no (-2) else .yes [m.game.now.cells.getD (y * m.game.now.w + x) 0] m
def dSeen (m : DeskM) (k : Nat) : Out := if m.game.keys.length < k then .no (-2) else .yes (m.game.stood k ++ ((m.game.cave k).text.length :: (m.game.cave k).text)) m
def dBack (m : DeskM) (k : Nat) : Out := if m.game.keys.length < k then .no (-2) else .yes (m.game.back k).stands { m with game := m.game.back k }
def dPlay (m : DeskM) (l : List Nat) : Out := if 100 < l.length ∨ l.any (fun k => decide (4 < k)) = true then .no (-1) else if m.game.need l.length = true then .no (-5) else .yes (l.foldl GM.tick m.game).stands { m with game := l.foldl GM.tick m.game }
def dDiffer (m : DeskM) (n : Nat) : Out := match m.kept n with
  | none => .no (-2)
  | some g => match m.game.parts g with
    | none => .no (-6)
    | some k => .yes [k] m
def dCave (m : DeskM) (l : List Nat) : Out := if 300 < l.length ∨ l.any (fun b => decide (255 < b)) = true then .no (-1) else if 0 < faultM l then .no (-10 - (faultM l : Int)) else
  .yes ((GM.new (caveM l) m.game.length).stands ++ [(caveM l).w, (caveM l).h]) { m with game := GM.new (caveM l) m.game.length }
def dOne (m : DeskM) (call n : Nat) : Out := if call = 1 then dHold m n else if call = 2 then dFrame m n else if call = 3 then dSpeed m n else if call = 4 then dSave m n else if call = 5 then dLoad m n else if call = 8 then dSeen m n else if call = 9 then dBack m n else dDiffer m n
def dDone (m : DeskM) (call : Nat) (nums row : List Nat) : Out := if call = 0 then dCave m row else if call = 6 then .yes (m.game.now.text.length :: m.game.now.text) m else if call = 7 then dPlace m (nums.getD 0 0) (nums.getD 1 0) else
  if call = 10 then .yes (m.game.keys.length :: m.game.keys) m else if call = 11 then dPlay m row else if call = 12 then .yes ((List.range 13).map fun v => m.game.now.cells.count v) m else dOne m call (nums.getD 0 0)
end SC
/-! SC17: a desk's methods, the first part. -/
namespace SC
open PySem PySem.Spec PyProof.Rows L2
def spD1 (A : Ad) (f : DeskM → Nat → Out) : Sp := fun vs H Q E => ∃ (Z own : List Addr) (d kd : Addr) (m : DeskM) (n : Nat), vs = [.ref d, .int n] ∧ DeskAt A Z H own d kd m ∧ m.Ok ∧ DPost A Z H own d kd Q E (f m n)
def spD2 (A : Ad) (f : DeskM → Nat → Nat → Out) : Sp := fun vs H Q E => ∃ (Z own : List Addr) (d kd : Addr) (m : DeskM) (x y : Nat), vs = [.ref d, .int x, .int y] ∧ DeskAt A Z H own d kd m ∧ m.Ok ∧ DPost A Z H own d kd Q E (f m x y)
def spDR (A : Ad) (K : PySem.W.Frag) (f : DeskM → List Nat → Out) : Sp := fun vs H Q E => ∃ (Z own : List Addr) (d kd : Addr) (m : DeskM) (r : Addr) (l : List Nat), vs = [.ref d, .ref r] ∧ DeskAt A Z H own d kd m ∧ m.Ok ∧ H r = some (.lst (vi l)) ∧ r ∉ own ∧ l.length ≤ 400 ∧ DPost A Z H own d kd Q E (f m l)
def spNeed (A : Ad) : Sp := fun vs H Q E => ∃ (Z own : List Addr) (d kd : Addr) (m : DeskM) (n : Nat), vs = [.ref d, .int n] ∧ DeskAt A Z H own d kd m ∧ m.Ok ∧ (m.game.need n = false → Q .non H) ∧ (m.game.need n = true → Let A H E (-5))
def spDeskI (A : Ad) : Sp := fun vs H Q _ => ∃ (d dx : Addr), vs = [.ref d] ∧ H d = some (.ins A.desk dx (kz [] [])) ∧
  ∀ H' own kd, DeskAt A [] H' own d kd ⟨GM.new cave0M 10, fun _ => none⟩ → (∀ b ∈ own, b = d ∨ H b = none) → Fr [d] H H' → Q .non H'
theorem ilt (a b : Nat) : decide ((a : Int) < (b : Int)) = decide (a < b) := by
  apply decide_eq_decide.mpr; omega
theorem ok_game {m : DeskM} {g : GM} (ok : m.Ok) (h : g.Ok) : DeskM.Ok { m with game := g } := ⟨h, ok.k⟩
theorem held_ok {g : GM} (ok : g.Ok) {k : Nat} (h : k ≤ 4) : GM.Ok { g with held := k } := ⟨ok.lc, ok.ok, ok.lk, ok.k4, h, ok.hl, ok.lt⟩

theorem take_ok {g : GM} (ok : g.Ok) {l : Nat} (h1 : 1 ≤ l) (h2 : l ≤ 100) : (g.takeLen l).Ok := ⟨ok.lc, ok.ok, ok.lk, ok.k4, ok.h4, ⟨h1, h2⟩, by show min g.left (l - 1) < l; omega⟩
theorem back_ok {g : GM} (ok : g.Ok) {k : Nat} (h : k ≤ g.keys.length) : (g.back k).Ok :=
  ⟨by show (g.caves.take (k + 1)).length = (g.keys.take k).length + 1; rw [List.length_take, List.length_take, ok.lc]; omega, fun c hc => ok.ok c (List.mem_of_mem_take hc), by show (g.keys.take k).length ≤ 400; rw [List.length_take]; have := ok.lk; omega,
    fun x hx => ok.k4 x (List.mem_of_mem_take hx), ok.h4, ok.hl, ok.hl.1⟩
theorem new_ok {c : CM} (ok : c.Ok) {l : Nat} (h1 : 1 ≤ l) (h2 : l ≤ 100) : (GM.new c l).Ok := ⟨rfl, fun x hx => by rw [List.mem_singleton.mp hx]; exact ok, Nat.zero_le _, fun x hx => absurd hx (List.not_mem_nil), Nat.zero_le _, ⟨h1, h2⟩, h1⟩
theorem fr_ok {g : GM} (ok : g.Ok) {p : Nat} (h : g.now.st = 0 → g.keys.length + g.due p ≤ 400) : (g.frame p).Ok := (ticks_ok (frame_ok ok) (n := g.due p) h _ (Nat.le_refl _)).1
theorem need_no {g : GM} {n : Nat} (h : g.need n = false) : g.now.st = 0 → g.keys.length + n ≤ 400 := fun c => by
  have := of_decide_eq_false h
  rw [not_and] at this
  have := this c
  omega
section
variable {A : Ad} {Z : List Addr} {H H1 : Hp} {own own1 : List Addr} {d kd p q r : Addr} {Q : VK} {E : XK} {m m' : DeskM} {l a b : List Nat}
/-- the end of an answer that is two lists put together -/
theorem DPost.fin3 (k : DPost A Z H own d kd Q E (.yes (a ++ b) m')) (hD : DeskAt A Z H1 own1 d kd m') (ok : m'.Ok) (sub : Sub own H own1) (inc : ∀ b ∈ own, b ∈ own1) (fr : Fr (wk Z own) H H1) {u v : HO} (hp : H1 p = none) (hq : upd H1 p u q = none) (hr : upd (upd H1 p u) q v r = none) :
    Q (.ref r) (upd (upd (upd H1 p u) q v) r (.lst (vi a ++ vi b))) := by
  have s2 : Same H1 (upd (upd H1 p u) q v) := fun b o z => by rw [upd_ne (ne_of_none (same_new hp b o z) hq)]; exact same_new hp b o z
  have hr1 := new_none s2 hr
  exact k.fin hD ok sub inc fr (same_up s2 hr1) (by rw [upd_same, vi_app]) hr1
end
theorem len4 (g : GM) (k : Nat) : (vi (g.stood k)).length = 4 := rfl
section
variable {P : Program} {w : World} {K : PySem.W.Frag} {mg : Str → Option Value} {base : Heap} {A : Ad}
theorem sc_Desk___init__ : FnScope ["self"] ["self"] (defScope (inClass (topS 59) 0)) := ⟨rfl, rfl, rfl, by decide +kernel, rfl, by decide +kernel, by decide +kernel⟩
theorem sc_Desk_hold : FnScope ["self", "key"] ["self", "key"] (defScope (inClass (topS 59) 2)) := ⟨rfl, rfl, rfl, by decide +kernel, rfl, by decide +kernel, by decide +kernel⟩
theorem sc_Desk_need_ticks : FnScope ["self", "many"] ["self", "many"] (defScope (inClass (topS 59) 3)) := ⟨rfl, rfl, rfl, by decide +kernel, rfl, by decide +kernel, by decide +kernel⟩
theorem sc_Desk_frame : FnScope ["self", "parts"] ["self", "parts"] (defScope (inClass (topS 59) 4)) := ⟨rfl, rfl, rfl, by decide +kernel, rfl, by decide +kernel, by decide +kernel⟩
theorem sc_Desk_speed : FnScope ["self", "parts"] ["self", "parts"] (defScope (inClass (topS 59) 5)) := ⟨rfl, rfl, rfl, by decide +kernel, rfl, by decide +kernel, by decide +kernel⟩
theorem sc_Desk_save : FnScope ["self", "where"] ["self", "where"] (defScope (inClass (topS 59) 6)) := ⟨rfl, rfl, rfl, by decide +kernel, rfl, by decide +kernel, by decide +kernel⟩
theorem sc_Desk_load : FnScope ["self", "where"] ["self", "where"] (defScope (inClass (topS 59) 7)) := ⟨rfl, rfl, rfl, by decide +kernel, rfl, by decide +kernel, by decide +kernel⟩
theorem m_Desk_hold (T : Txt K mg A) : MethOk P w K mg base (L2.CX P w) 4 A.desk "hold" ["self", "key"] (spD1 A dHold) := by
  refine T.d_Desk_hold.okX (N := ["self", "key"]) sc_Desk_hold (fun vs H Q E h => (by first | (obtain ⟨rfl, _⟩ := h; rfl) | (obtain ⟨_, rfl, _⟩ := h; rfl) | (obtain ⟨_, _, rfl, _⟩ := h; rfl) | (obtain ⟨_, _, _, rfl, _⟩ := h; rfl) | (obtain ⟨_, _, _, _, rfl, _⟩ := h; rfl) | (obtain ⟨_, _, _, _, _, rfl, _⟩ := h; rfl) | (obtain ⟨_, _, _, _, _, _, rfl, _⟩ := h; rfl) | (obtain ⟨_, _, _, _, _, _, _, rfl, _⟩ := h; rfl) | (obtain ⟨_, _, _, _, _, _, _, _, rfl, _⟩ := h; rfl) | (obtain ⟨_, _, _, _, _, _, _, _, _, rfl, _⟩ := h; rfl) | (obtain ⟨_, _, _, _, _, _, _, _, _, _, rfl, _⟩ := h; rfl) | (obtain ⟨_, _, _, _, _, _, _, _, _, _, _, rfl, _⟩ := h; rfl) | (obtain ⟨_, _, _, _, _, _, _, _, _, _, _, _, rfl, _⟩ := h; rfl) | (obtain ⟨_, _, _, _, _, _, _, _, _, _, _, _, _, rfl, _⟩ := h; rfl) | (obtain ⟨rfl⟩ := h; rfl) | (obtain ⟨_, rfl⟩ := h; rfl) | (obtain ⟨_, _, rfl⟩ := h; rfl) | (obtain ⟨_, _, _, rfl⟩ := h; rfl) | (obtain ⟨_, _, _, _, rfl⟩ := h; rfl) | (obtain ⟨_, _, _, _, _, rfl⟩ := h; rfl) | (obtain ⟨_, _, _, _, _, _, rfl⟩ := h; rfl) | (obtain ⟨_, _, _, _, _, _, _, rfl⟩ := h; rfl) | (obtain ⟨_, _, _, _, _, _, _, _, rfl⟩ := h; rfl) | (obtain ⟨_, _, _, _, _, _, _, _, _, rfl⟩ := h; rfl) | (obtain ⟨_, _, _, _, _, _, _, _, _, _, rfl⟩ := h; rfl) | (obtain ⟨_, _, _, _, _, _, _, _, _, _, _, rfl⟩ := h; rfl) | (obtain ⟨_, _, _, _, _, _, _, _, _, _, _, _, rfl⟩ := h; rfl) | (obtain ⟨_, _, _, _, _, _, _, _, _, _, _, _, _, rfl⟩ := h; rfl))) (fun _ _ _ _ _ _ us hl => match us, hl with | [_, _], _ => rfl) (fun f cdv A0 outer s H vs Q E hr h => ⟨_, (pss_cons (ps_expr (pe_cal (g_refuse T) (hr.mono (by decide)) (passes_call (takes_of rfl rfl rfl rfl) (fun _ _ _ _ h => h)) (pa_cons (pe_cmpR op_gt (pv 1) (pe_gi T.i_MOST_KEY) (nomark _)) (pa_cons (pe_gi T.i_NOT_AS_TOLD) pa_nil))))
      (pss_cons (ps_put (ks := kGame) (i := 4) T.cGame T.nGame_held (by decide +kernel) (by decide) (pe_get (ks := kDesk) (i := 0) T.cDesk T.nDesk_game (by decide +kernel) (pv 0)) (pv 1) rfl)
      (pss_one (ps_ret (pe_lst (pa_cons pe_int pa_nil)))))), ?_⟩)
  obtain ⟨Z, own, d, kd, m, n, rfl, hD, ok, k⟩ := h
  obtain ⟨dx, g, cl, pl, kvs, hd, hG, hk, hK, hc, hz⟩ := id hD.ex
  refine ⟨_, rfl, _, _, rfl, rfl, _, _, rfl, fun hb => ?_, fun hb => ?_⟩
  · have hn : ¬ 4 < n := by have := of_decide_eq_false hb; omega
    have e : dHold m n = .yes [0] { m with game := { m.game with held := n } } := if_neg hn
    rw [e] at k
    obtain ⟨gx, as, g1, _⟩ := id hG.ex
    refine ⟨_, rfl, _, rfl, _, _, _, _, rfl, hd, rfl, _, _, _, rfl, g1, (by show 4 < 5; decide), (by show 1 ≤ sizeLine; decide), fun p hp => ?_⟩
    have hG1 := hG.put (dx := gx) (m' := { m.game with held := n }) rfl rfl
    refine k.fin (DeskAt.regame hD hd hG hk hK hc hz hG1 ((Fr.refl _ _).upd (by simp)) (fun b z => .inl z) (fun b z => z) old2) (ok_game ok (held_ok ok.g (by omega))) (fun b z => .inl z) (fun b z => z) ((Fr.refl _ _).upd (wk3 hG hz g (by simp))) (same_new hp) upd_same hp
  · have hn : 4 < n := by have := of_decide_eq_true hb; omega
    have e : dHold m n = .no (-1) := if_pos hn
    rw [e] at k
    exact k
theorem m_Desk_need_ticks (T : Txt K mg A) : MethOk P w K mg base (L2.CX P w) 4 A.desk "need_ticks" ["self", "many"] (spNeed A) := by
  refine T.d_Desk_need_ticks.okX (N := ["self", "many"]) sc_Desk_need_ticks (fun vs H Q E h => (by first | (obtain ⟨rfl, _⟩ := h; rfl) | (obtain ⟨_, rfl, _⟩ := h; rfl) | (obtain ⟨_, _, rfl, _⟩ := h; rfl) | (obtain ⟨_, _, _, rfl, _⟩ := h; rfl) | (obtain ⟨_, _, _, _, rfl, _⟩ := h; rfl) | (obtain ⟨_, _, _, _, _, rfl, _⟩ := h; rfl) | (obtain ⟨_, _, _, _, _, _, rfl, _⟩ := h; rfl) | (obtain ⟨_, _, _, _, _, _, _, rfl, _⟩ := h; rfl) | (obtain ⟨_, _, _, _, _, _, _, _, rfl, _⟩ := h; rfl) | (obtain ⟨_, _, _, _, _, _, _, _, _, rfl, _⟩ := h; rfl) | (obtain ⟨_, _, _, _, _, _, _, _, _, _, rfl, _⟩ := h; rfl) | (obtain ⟨_, _, _, _, _, _, _, _, _, _, _, rfl, _⟩ := h; rfl) | (obtain ⟨_, _, _, _, _, _, _, _, _, _, _, _, rfl, _⟩ := h; rfl) | (obtain ⟨_, _, _, _, _, _, _, _, _, _, _, _, _, rfl, _⟩ := h; rfl) | (obtain ⟨rfl⟩ := h; rfl) | (obtain ⟨_, rfl⟩ := h; rfl) | (obtain ⟨_, _, rfl⟩ := h; rfl) | (obtain ⟨_, _, _, rfl⟩ := h; rfl) | (obtain ⟨_, _, _, _, rfl⟩ := h; rfl) | (obtain ⟨_, _, _, _, _, rfl⟩ := h; rfl) | (obtain ⟨_, _, _, _, _, _, rfl⟩ := h; rfl) | (obtain ⟨_, _, _, _, _, _, _, rfl⟩ := h; rfl) | (obtain ⟨_, _, _, _, _, _, _, _, rfl⟩ := h; rfl) | (obtain ⟨_, _, _, _, _, _, _, _, _, rfl⟩ := h; rfl) | (obtain ⟨_, _, _, _, _, _, _, _, _, _, rfl⟩ := h; rfl) | (obtain ⟨_, _, _, _, _, _, _, _, _, _, _, rfl⟩ := h; rfl) | (obtain ⟨_, _, _, _, _, _, _, _, _, _, _, _, rfl⟩ := h; rfl) | (obtain ⟨_, _, _, _, _, _, _, _, _, _, _, _, _, rfl⟩ := h; rfl))) (fun _ _ _ _ _ _ us hl => match us, hl with | [_, _], _ => rfl) (fun f cdv A0 outer s H vs Q E hr h => ⟨_, (pss_one (ps_expr (pe_cal (g_refuse T) (hr.mono (by decide)) (passes_call (takes_of rfl rfl rfl rfl) (fun _ _ _ _ h => h)) (pa_cons (pe_and (pe_mth0 (ks := kGame) T.cGame (by decide +kernel) (m_Game_goes_on T) (hr.mono (by decide)) pass0 (pe_get (ks := kDesk) (i := 0) T.cDesk T.nDesk_game (by decide +kernel) (pv 0))) (pe_one (pe_cmpR op_gt (pe_op op_add (pe_mth0 (ks := kGame) T.cGame (by decide +kernel) (m_Game_many T) (hr.mono (by decide)) pass0 (pe_get (ks := kDesk) (i := 0) T.cDesk T.nDesk_game (by decide +kernel) (pv 0))) (pv 1)) (pe_gi T.i_MOST_TICKS) (nomark _)))) (pa_cons (pe_gi T.i_TOO_MANY) pa_nil))))), ?_⟩)
  obtain ⟨Z, own, d, kd, m, n, rfl, hD, ok, k1, k2⟩ := h
  obtain ⟨dx, g, cl, pl, kvs, hd, hG, hk, hK, hc, hz⟩ := id hD.ex
  obtain ⟨gx, as, g1, _⟩ := id hG.ex
  refine ⟨_, rfl, _, _, _, _, rfl, hd, rfl, _, _, _, rfl, g1, g, m.game, rfl, hG.r, ok.g, ?_⟩
  have key : m.game.need n = decide (m.game.now.st = 0 ∧ 400 < m.game.keys.length + n) := rfl
  refine ⟨_, rfl, if_d (fun c => ?_) fun c => ?_⟩
  · refine ⟨_, rfl, _, _, _, _, rfl, hd, rfl, _, _, _, rfl, g1, g, m.game, rfl, hG.r, _, rfl, _, _, rfl, rfl, _, _, rfl, rfl, _, _, rfl, fun hb => ?_, fun hb => ?_⟩
    · exact k1 (by rw [key]; have := of_decide_eq_false hb; exact decide_eq_false fun z => this (by have := z.2; omega))
    · exact k2 (by rw [key]; have := of_decide_eq_true hb; exact decide_eq_true ⟨c, by omega⟩)
  · exact ⟨_, _, rfl, fun _ => k1 (by rw [key]; exact decide_eq_false fun z => c z.1), fun z => by cases z⟩
theorem m_Desk_frame (T : Txt K mg A) : MethOk P w K mg base (L2.CX P w) 10 A.desk "frame" ["self", "parts"] (spD1 A dFrame) := by
  refine T.d_Desk_frame.okX (N := ["self", "parts"]) sc_Desk_frame (fun vs H Q E h => (by first | (obtain ⟨rfl, _⟩ := h; rfl) | (obtain ⟨_, rfl, _⟩ := h; rfl) | (obtain ⟨_, _, rfl, _⟩ := h; rfl) | (obtain ⟨_, _, _, rfl, _⟩ := h; rfl) | (obtain ⟨_, _, _, _, rfl, _⟩ := h; rfl) | (obtain ⟨_, _, _, _, _, rfl, _⟩ := h; rfl) | (obtain ⟨_, _, _, _, _, _, rfl, _⟩ := h; rfl) | (obtain ⟨_, _, _, _, _, _, _, rfl, _⟩ := h; rfl) | (obtain ⟨_, _, _, _, _, _, _, _, rfl, _⟩ := h; rfl) | (obtain ⟨_, _, _, _, _, _, _, _, _, rfl, _⟩ := h; rfl) | (obtain ⟨_, _, _, _, _, _, _, _, _, _, rfl, _⟩ := h; rfl) | (obtain ⟨_, _, _, _, _, _, _, _, _, _, _, rfl, _⟩ := h; rfl) | (obtain ⟨_, _, _, _, _, _, _, _, _, _, _, _, rfl, _⟩ := h; rfl) | (obtain ⟨_, _, _, _, _, _, _, _, _, _, _, _, _, rfl, _⟩ := h; rfl) | (obtain ⟨rfl⟩ := h; rfl) | (obtain ⟨_, rfl⟩ := h; rfl) | (obtain ⟨_, _, rfl⟩ := h; rfl) | (obtain ⟨_, _, _, rfl⟩ := h; rfl) | (obtain ⟨_, _, _, _, rfl⟩ := h; rfl) | (obtain ⟨_, _, _, _, _, rfl⟩ := h; rfl) | (obtain ⟨_, _, _, _, _, _, rfl⟩ := h; rfl) | (obtain ⟨_, _, _, _, _, _, _, rfl⟩ := h; rfl) | (obtain ⟨_, _, _, _, _, _, _, _, rfl⟩ := h; rfl) | (obtain ⟨_, _, _, _, _, _, _, _, _, rfl⟩ := h; rfl) | (obtain ⟨_, _, _, _, _, _, _, _, _, _, rfl⟩ := h; rfl) | (obtain ⟨_, _, _, _, _, _, _, _, _, _, _, rfl⟩ := h; rfl) | (obtain ⟨_, _, _, _, _, _, _, _, _, _, _, _, rfl⟩ := h; rfl) | (obtain ⟨_, _, _, _, _, _, _, _, _, _, _, _, _, rfl⟩ := h; rfl))) (fun _ _ _ _ _ _ us hl => match us, hl with | [_, _], _ => rfl) (fun f cdv A0 outer s H vs Q E hr h => ⟨_, (pss_cons (ps_expr (pe_cal (g_refuse T) (hr.mono (by decide)) (passes_call (takes_of rfl rfl rfl rfl) (fun _ _ _ _ h => h)) (pa_cons (pe_cmpR op_gt (pv 1) (pe_gi T.i_MOST_PARTS) (nomark _)) (pa_cons (pe_gi T.i_NOT_AS_TOLD) pa_nil))))
      (pss_cons (ps_expr (pe_mth (ks := kDesk) T.cDesk (by decide +kernel) (m_Desk_need_ticks T) (hr.mono (by decide)) (passes_call (takes_of rfl rfl rfl rfl) (fun _ _ _ _ h => h)) (pv 0) (pa_cons (pe_mth (ks := kGame) T.cGame (by decide +kernel) (m_Game_many_due T) (hr.mono (by decide)) pass0 (pe_get (ks := kDesk) (i := 0) T.cDesk T.nDesk_game (by decide +kernel) (pv 0)) (pa_cons (pv 1) pa_nil)) pa_nil)))
      (pss_cons (ps_expr (pe_mth (ks := kGame) T.cGame (by decide +kernel) (m_Game_frame T) (hr.mono (by decide)) pass0 (pe_get (ks := kDesk) (i := 0) T.cDesk T.nDesk_game (by decide +kernel) (pv 0)) (pa_cons (pv 1) pa_nil)))
      (pss_one (ps_ret (pe_op op_cat (pe_mth0 (ks := kGame) T.cGame (by decide +kernel) (m_Game_stands T) (hr.mono (by decide)) pass0 (pe_get (ks := kDesk) (i := 0) T.cDesk T.nDesk_game (by decide +kernel) (pv 0))) (pe_lst (pa_cons (pe_get (ks := kGame) (i := 2) T.cGame T.nGame_left (by decide +kernel) (pe_get (ks := kDesk) (i := 0) T.cDesk T.nDesk_game (by decide +kernel) (pv 0))) pa_nil)))))))), ?_⟩)
  obtain ⟨Z, own, d, kd, m, n, rfl, hD, ok, k⟩ := h
  obtain ⟨dx, g, cl, pl, kvs, hd, hG, hk, hK, hc, hz⟩ := id hD.ex
  obtain ⟨gx, as, g1, _⟩ := id hG.ex
  refine ⟨_, rfl, _, _, rfl, rfl, _, _, rfl, fun hb => ?_, fun hb => ?_⟩
  · have hn : ¬ 1000 < n := by have := of_decide_eq_false hb; omega
    refine ⟨_, rfl, _, _, _, rfl, hd, _, rfl, _, _, _, _, rfl, hd, rfl, _, _, _, rfl, g1, _, rfl, g, m.game, n, rfl, hG.r, ok.g, Z, own, d, kd, m, m.game.due n, rfl, hD, ok, fun hb2 => ?_, fun hb2 => ?_⟩
    · have e : dFrame m n = .yes ((m.game.frame n).stands ++ [(m.game.frame n).left]) { m with game := m.game.frame n } := by unfold dFrame; rw [if_neg hn, if_neg (by rw [hb2]; exact Bool.false_ne_true)]
      rw [e] at k
      have few := need_no hb2
      refine ⟨_, rfl, _, _, _, _, rfl, hd, rfl, _, _, _, rfl, g1, _, rfl, own, g, cl, pl, m.game, n, rfl, hG, ok.g, by omega, few, fun H1 hG1 f1 => ?_⟩
      have hD1 := DeskAt.regame hD hd hG hk hK hc hz hG1 f1 (fun b z => .inl z) (fun b z => z) old2
      have ok1 := fr_ok ok.g few
      obtain ⟨gx1, as1, g2, _⟩ := id hG1.ex
      have hd1 := f1 _ _ hd (nd3 hd hG)
      refine ⟨_, rfl, _, _, _, _, rfl, hd1, rfl, _, _, _, rfl, g2, g, _, rfl, hG1.r, ok1, fun p hp => ?_⟩
      refine ⟨_, rfl, _, _, _, _, rfl, same_new hp _ _ hd1, rfl, _, _, _, _, rfl, same_new hp _ _ g2, rfl, (by show 1 ≤ sizeLine; decide), fun q hq => ⟨p, q, _, _, rfl, rfl, same_new hq _ _ upd_same, upd_same, (by show 5 ≤ sizeLine; decide), fun r hr => ?_⟩⟩
      exact k.fin3 hD1 (ok_game ok ok1) (fun b z => .inl z) (fun b z => z) (f1.mono (wk3 hG hz)) hp hq hr
    · have e : dFrame m n = .no (-5) := by unfold dFrame; rw [if_neg hn, if_pos hb2]
      rw [e] at k
      exact k
  · have hn : 1000 < n := by have := of_decide_eq_true hb; omega
    have e : dFrame m n = .no (-1) := if_pos hn
    rw [e] at k
    exact k
theorem m_Desk_speed (T : Txt K mg A) : MethOk P w K mg base (L2.CX P w) 4 A.desk "speed" ["self", "parts"] (spD1 A dSpeed) := by
  refine T.d_Desk_speed.okX (N := ["self", "parts"]) sc_Desk_speed (fun vs H Q E h => (by first | (obtain ⟨rfl, _⟩ := h; rfl) | (obtain ⟨_, rfl, _⟩ := h; rfl) | (obtain ⟨_, _, rfl, _⟩ := h; rfl) | (obtain ⟨_, _, _, rfl, _⟩ := h; rfl) | (obtain ⟨_, _, _, _, rfl, _⟩ := h; rfl) | (obtain ⟨_, _, _, _, _, rfl, _⟩ := h; rfl) | (obtain ⟨_, _, _, _, _, _, rfl, _⟩ := h; rfl) | (obtain ⟨_, _, _, _, _, _, _, rfl, _⟩ := h; rfl) | (obtain ⟨_, _, _, _, _, _, _, _, rfl, _⟩ := h; rfl) | (obtain ⟨_, _, _, _, _, _, _, _, _, rfl, _⟩ := h; rfl) | (obtain ⟨_, _, _, _, _, _, _, _, _, _, rfl, _⟩ := h; rfl) | (obtain ⟨_, _, _, _, _, _, _, _, _, _, _, rfl, _⟩ := h; rfl) | (obtain ⟨_, _, _, _, _, _, _, _, _, _, _, _, rfl, _⟩ := h; rfl) | (obtain ⟨_, _, _, _, _, _, _, _, _, _, _, _, _, rfl, _⟩ := h; rfl) | (obtain ⟨rfl⟩ := h; rfl) | (obtain ⟨_, rfl⟩ := h; rfl) | (obtain ⟨_, _, rfl⟩ := h; rfl) | (obtain ⟨_, _, _, rfl⟩ := h; rfl) | (obtain ⟨_, _, _, _, rfl⟩ := h; rfl) | (obtain ⟨_, _, _, _, _, rfl⟩ := h; rfl) | (obtain ⟨_, _, _, _, _, _, rfl⟩ := h; rfl) | (obtain ⟨_, _, _, _, _, _, _, rfl⟩ := h; rfl) | (obtain ⟨_, _, _, _, _, _, _, _, rfl⟩ := h; rfl) | (obtain ⟨_, _, _, _, _, _, _, _, _, rfl⟩ := h; rfl) | (obtain ⟨_, _, _, _, _, _, _, _, _, _, rfl⟩ := h; rfl) | (obtain ⟨_, _, _, _, _, _, _, _, _, _, _, rfl⟩ := h; rfl) | (obtain ⟨_, _, _, _, _, _, _, _, _, _, _, _, rfl⟩ := h; rfl) | (obtain ⟨_, _, _, _, _, _, _, _, _, _, _, _, _, rfl⟩ := h; rfl))) (fun _ _ _ _ _ _ us hl => match us, hl with | [_, _], _ => rfl) (fun f cdv A0 outer s H vs Q E hr h => ⟨_, (pss_cons (ps_expr (pe_cal (g_refuse T) (hr.mono (by decide)) (passes_call (takes_of rfl rfl rfl rfl) (fun _ _ _ _ h => h)) (pa_cons (pe_not (pe_chain op_le op_le pe_int (pv 1) (pe_gi T.i_MOST_LENGTH))) (pa_cons (pe_gi T.i_NOT_AS_TOLD) pa_nil))))
      (pss_cons (ps_expr (pe_mth (ks := kGame) T.cGame (by decide +kernel) (m_Game_take_length T) (hr.mono (by decide)) pass0 (pe_get (ks := kDesk) (i := 0) T.cDesk T.nDesk_game (by decide +kernel) (pv 0)) (pa_cons (pv 1) pa_nil)))
      (pss_one (ps_ret (pe_lst (pa_cons pe_int pa_nil)))))), ?_⟩)
  obtain ⟨Z, own, d, kd, m, n, rfl, hD, ok, k⟩ := h
  obtain ⟨dx, g, cl, pl, kvs, hd, hG, hk, hK, hc, hz⟩ := id hD.ex
  obtain ⟨gx, as, g1, _⟩ := id hG.ex
  have bad : ¬ (1 ≤ n ∧ n ≤ 100) → Let A H E (-1) := fun c => by
    have e : dSpeed m n = .no (-1) := if_neg c
    rw [e] at k
    exact k
  refine ⟨_, rfl, _, _, rfl, rfl, _, rfl, if_d (fun c => ?_) fun c => ?_⟩
  · refine ⟨_, _, rfl, rfl, _, rfl, _, _, rfl, fun hb => ?_, fun hb => ?_⟩
    · have hn : n ≤ 100 := by
        have z : decide ((n : Int) ≤ 100) = true := by revert hb; cases decide ((n : Int) ≤ 100) <;> simp
        have := of_decide_eq_true z; omega
      have e : dSpeed m n = .yes [0] { m with game := m.game.takeLen n } := if_pos ⟨by omega, hn⟩
      rw [e] at k
      refine ⟨_, rfl, _, _, _, _, rfl, hd, rfl, _, _, _, rfl, g1, _, rfl, own, g, cl, pl, m.game, n, rfl, hG, by omega, fun H1 hG1 f1 => ⟨(by show 1 ≤ sizeLine; decide), fun p hp => ?_⟩⟩
      have hD1 := DeskAt.regame hD hd hG hk hK hc hz hG1 f1 (fun b z => .inl z) (fun b z => z) old2
      exact k.fin hD1 (ok_game ok (take_ok ok.g (by omega) hn)) (fun b z => .inl z) (fun b z => z) (f1.mono (wk3 hG hz)) (same_new hp) upd_same hp
    · refine bad fun z => ?_
      have z2 : decide ((n : Int) ≤ 100) = true := decide_eq_true (by omega)
      have hb2 : (!decide ((n : Int) ≤ 100)) = true := hb
      rw [z2] at hb2
      cases hb2
  · exact ⟨_, rfl, _, _, rfl, fun z => (by cases z), fun _ => bad fun z => c (by omega)⟩
theorem save_at {Z : List Addr} {H H1 : Hp} {own : List Addr} {d kd g cl pl dx g2 : Addr} {m : DeskM} {kvs : List (Key × V)} {as : List Addr} {n : Nat} (hD : DeskAt A Z H own d kd m) (hd : H d = some (.ins A.desk dx (kz kDesk [.ref g, .ref kd]))) (hG : GameAt A H own g cl pl m.game) (hk : H kd = some (.dK kvs))
    (hK : KeptL A (hide own H) kvs m.kept) (hc : kvs.length = cnt m.kept 10) (hz : ∀ b ∈ [g, cl, pl], b ∉ Z) (gn : GameNew A H H1 g2 as m.game) (hC : CavesL A (hide own H) as m.game.caves) (hn : n ≤ 9) :
    DeskAt A Z (upd H1 kd (.dK (putK kvs (.inl (n : Int)) (.ref g2)))) own d kd { m with kept := putN m.kept n m.game } := by
  have ndk : d ≠ kd := ne_of hd hk (by intro z; cases z)
  have f : Fr [kd] H (upd H1 kd (.dK (putK kvs (.inl (n : Int)) (.ref g2)))) := (Fr.same gn.same).upd (by simp)
  have hs := hide_same (own := own) (own' := own) f (fun b z => by rw [List.mem_singleton.mp z]; exact hD.ok) fun b z => .inl z
  have hk2 : KeptL A (hide own (upd H1 kd (.dK (putK kvs (.inl (n : Int)) (.ref g2))))) (putK kvs (.inl (n : Int)) (.ref g2)) (putN m.kept n m.game) := fun j => by
    rw [valV_put]
    by_cases e : j = n
    · subst e
      rw [if_pos rfl]
      obtain ⟨dx2, cl2, pl2, q1, q2, q3, q4, q5, _⟩ := gn.ex
      have up : ∀ b o, H b = none → H1 b = some o → hide own (upd H1 kd (.dK (putK kvs (.inl (j : Int)) (.ref g2)))) b = some o := fun b o z1 z2 => by
        have nb := not_own hG.live z1
        refine hide_some.mpr ⟨nb, ?_⟩
        rw [upd_ne fun z => nb (by rw [z]; exact hD.ok)]
        exact z2
      exact .inr ⟨m.game, g2, if_pos rfl, rfl, as, ⟨dx2, cl2, pl2, up _ _ gn.fg q1, up _ _ q4 q2, up _ _ q5 q3⟩, hC.mono hs⟩
    · rw [if_neg fun z => e (by have := Sum.inl.inj z; omega)]
      have e2 : putN m.kept n m.game j = m.kept j := if_neg e
      rw [e2]
      exact hK.mono hs j
  refine ⟨⟨dx, g, cl, pl, putK kvs (.inl (n : Int)) (.ref g2), f _ _ hd (by simpa using ndk), (hG.mono gn.same).other hD.ok (nk3 (gn.same _ _ hk) (hG.mono gn.same)), upd_same, hk2, ?_, hz⟩, hD.wd, hD.wkd, hD.zo⟩
  · show _ = cnt (putN m.kept n m.game) 10
    rw [cnt_put 10 (by omega), ← hc]
    have ha := valV_any (Sum.inl (n : Int) : Key) kvs
    rcases hK n with ⟨q1, q2⟩ | ⟨gm, a, q1, q2, _⟩
    · rw [putK_new _ q2, q1, List.length_append]; rfl
    · rw [q1]
      rw [q2] at ha
      have ha' : (kvs.any fun kv => decide (kv.1 = Sum.inl (n : Int))) = true := ha
      unfold putK
      rw [if_pos ha', List.length_map]; rfl
theorem m_Desk_save (T : Txt K mg A) : MethOk P w K mg base (L2.CX P w) 4 A.desk "save" ["self", "where"] (spD1 A dSave) := by
  refine T.d_Desk_save.okX (N := ["self", "where"]) sc_Desk_save (fun vs H Q E h => (by first | (obtain ⟨rfl, _⟩ := h; rfl) | (obtain ⟨_, rfl, _⟩ := h; rfl) | (obtain ⟨_, _, rfl, _⟩ := h; rfl) | (obtain ⟨_, _, _, rfl, _⟩ := h; rfl) | (obtain ⟨_, _, _, _, rfl, _⟩ := h; rfl) | (obtain ⟨_, _, _, _, _, rfl, _⟩ := h; rfl) | (obtain ⟨_, _, _, _, _, _, rfl, _⟩ := h; rfl) | (obtain ⟨_, _, _, _, _, _, _, rfl, _⟩ := h; rfl) | (obtain ⟨_, _, _, _, _, _, _, _, rfl, _⟩ := h; rfl) | (obtain ⟨_, _, _, _, _, _, _, _, _, rfl, _⟩ := h; rfl) | (obtain ⟨_, _, _, _, _, _, _, _, _, _, rfl, _⟩ := h; rfl) | (obtain ⟨_, _, _, _, _, _, _, _, _, _, _, rfl, _⟩ := h; rfl) | (obtain ⟨_, _, _, _, _, _, _, _, _, _, _, _, rfl, _⟩ := h; rfl) | (obtain ⟨_, _, _, _, _, _, _, _, _, _, _, _, _, rfl, _⟩ := h; rfl) | (obtain ⟨rfl⟩ := h; rfl) | (obtain ⟨_, rfl⟩ := h; rfl) | (obtain ⟨_, _, rfl⟩ := h; rfl) | (obtain ⟨_, _, _, rfl⟩ := h; rfl) | (obtain ⟨_, _, _, _, rfl⟩ := h; rfl) | (obtain ⟨_, _, _, _, _, rfl⟩ := h; rfl) | (obtain ⟨_, _, _, _, _, _, rfl⟩ := h; rfl) | (obtain ⟨_, _, _, _, _, _, _, rfl⟩ := h; rfl) | (obtain ⟨_, _, _, _, _, _, _, _, rfl⟩ := h; rfl) | (obtain ⟨_, _, _, _, _, _, _, _, _, rfl⟩ := h; rfl) | (obtain ⟨_, _, _, _, _, _, _, _, _, _, rfl⟩ := h; rfl) | (obtain ⟨_, _, _, _, _, _, _, _, _, _, _, rfl⟩ := h; rfl) | (obtain ⟨_, _, _, _, _, _, _, _, _, _, _, _, rfl⟩ := h; rfl) | (obtain ⟨_, _, _, _, _, _, _, _, _, _, _, _, _, rfl⟩ := h; rfl))) (fun _ _ _ _ _ _ us hl => match us, hl with | [_, _], _ => rfl) (fun f cdv A0 outer s H vs Q E hr h => ⟨_, (pss_cons (ps_expr (pe_cal (g_refuse T) (hr.mono (by decide)) (passes_call (takes_of rfl rfl rfl rfl) (fun _ _ _ _ h => h)) (pa_cons (pe_cmpR op_gt (pv 1) (pe_gi T.i_MOST_KEPT) (nomark _)) (pa_cons (pe_gi T.i_NOT_AS_TOLD) pa_nil))))
      (pss_cons (ps_dput (hu_of hr) (pe_get (ks := kDesk) (i := 1) T.cDesk T.nDesk_kept (by decide +kernel) (pv 0)) (pv 1) (pe_mth0 (ks := kGame) T.cGame (by decide +kernel) (m_Game_copied T) (hr.mono (by decide)) pass0 (pe_get (ks := kDesk) (i := 0) T.cDesk T.nDesk_game (by decide +kernel) (pv 0))) rfl)
      (pss_one (ps_ret (pe_lst (pa_cons (pe_mth0 (ks := kGame) T.cGame (by decide +kernel) (m_Game_many T) (hr.mono (by decide)) pass0 (pe_get (ks := kDesk) (i := 0) T.cDesk T.nDesk_game (by decide +kernel) (pv 0))) pa_nil)))))), ?_⟩)
  obtain ⟨Z, own, d, kd, m, n, rfl, hD, ok, k⟩ := h
  obtain ⟨dx, g, cl, pl, kvs, hd, hG, hk, hK, hc, hz⟩ := id hD.ex
  obtain ⟨gx, as, g1, g2, g3, hC⟩ := id hG.ex
  refine ⟨_, rfl, _, _, rfl, rfl, _, _, rfl, fun hb => ?_, fun hb => ?_⟩
  · have hn : ¬ 9 < n := by have := of_decide_eq_false hb; omega
    have e : dSave m n = .yes [m.game.keys.length] { m with kept := putN m.kept n m.game } := if_neg hn
    rw [e] at k
    have has : as ≠ [] := fun z => by
      have q := hC.len
      rw [z, ok.g.lc] at q
      cases q
    refine ⟨_, rfl, _, _, _, _, rfl, hd, rfl, _, _, _, rfl, g1, g, as, m.game, rfl, ⟨gx, cl, pl, g1, g2, g3⟩, has, fun H1 p gn => ?_⟩
    refine ⟨_, rfl, _, _, _, _, rfl, gn.same _ _ hd, rfl, _, rfl, kd, _, rfl, DPut.k (k := .inl (n : Int)) (gn.same _ _ hk) (by rw [hc]; exact Nat.lt_of_le_of_lt (cnt_le _ _) (by decide)), ?_⟩
    have hD1 := save_at hD hd hG hk hK hc hz gn hC (n := n) (by omega)
    have ok1 : DeskM.Ok { m with kept := putN m.kept n m.game } := ⟨ok.g, fun j g' hj0 => by
      have hj : putN m.kept n m.game j = some g' := hj0
      by_cases e : j = n
      · rw [show putN m.kept n m.game j = some m.game from if_pos e] at hj
        cases hj; exact ok.g
      · rw [show putN m.kept n m.game j = m.kept j from if_neg e] at hj
        exact ok.k j g' hj⟩
    obtain ⟨dx1, g', cl', pl', kvs', hd1, hG1, _⟩ := id hD1.ex
    obtain ⟨gx1, as1, g4, _⟩ := id hG1.ex
    refine ⟨_, rfl, _, _, _, _, rfl, hd1, rfl, _, _, _, rfl, g4, g', m.game, rfl, hG1.r, (by show 1 ≤ sizeLine; decide), fun q hq => ?_⟩
    exact k.fin hD1 ok1 (fun b z => .inl z) (fun b z => z) ((Fr.same gn.same).upd hD.wkd) (same_new hq) upd_same hq
  · have hn : 9 < n := by have := of_decide_eq_true hb; omega
    have e : dSave m n = .no (-1) := if_pos hn
    rw [e] at k
    exact k
theorem m_Desk_load (T : Txt K mg A) : MethOk P w K mg base (L2.CX P w) 4 A.desk "load" ["self", "where"] (spD1 A dLoad) := by
  refine T.d_Desk_load.okX (N := ["self", "where"]) sc_Desk_load (fun vs H Q E h => (by first | (obtain ⟨rfl, _⟩ := h; rfl) | (obtain ⟨_, rfl, _⟩ := h; rfl) | (obtain ⟨_, _, rfl, _⟩ := h; rfl) | (obtain ⟨_, _, _, rfl, _⟩ := h; rfl) | (obtain ⟨_, _, _, _, rfl, _⟩ := h; rfl) | (obtain ⟨_, _, _, _, _, rfl, _⟩ := h; rfl) | (obtain ⟨_, _, _, _, _, _, rfl, _⟩ := h; rfl) | (obtain ⟨_, _, _, _, _, _, _, rfl, _⟩ := h; rfl) | (obtain ⟨_, _, _, _, _, _, _, _, rfl, _⟩ := h; rfl) | (obtain ⟨_, _, _, _, _, _, _, _, _, rfl, _⟩ := h; rfl) | (obtain ⟨_, _, _, _, _, _, _, _, _, _, rfl, _⟩ := h; rfl) | (obtain ⟨_, _, _, _, _, _, _, _, _, _, _, rfl, _⟩ := h; rfl) | (obtain ⟨_, _, _, _, _, _, _, _, _, _, _, _, rfl, _⟩ := h; rfl) | (obtain ⟨_, _, _, _, _, _, _, _, _, _, _, _, _, rfl, _⟩ := h; rfl) | (obtain ⟨rfl⟩ := h; rfl) | (obtain ⟨_, rfl⟩ := h; rfl) | (obtain ⟨_, _, rfl⟩ := h; rfl) | (obtain ⟨_, _, _, rfl⟩ := h; rfl) | (obtain ⟨_, _, _, _, rfl⟩ := h; rfl) | (obtain ⟨_, _, _, _, _, rfl⟩ := h; rfl) | (obtain ⟨_, _, _, _, _, _, rfl⟩ := h; rfl) | (obtain ⟨_, _, _, _, _, _, _, rfl⟩ := h; rfl) | (obtain ⟨_, _, _, _, _, _, _, _, rfl⟩ := h; rfl) | (obtain ⟨_, _, _, _, _, _, _, _, _, rfl⟩ := h; rfl) | (obtain ⟨_, _, _, _, _, _, _, _, _, _, rfl⟩ := h; rfl) | (obtain ⟨_, _, _, _, _, _, _, _, _, _, _, rfl⟩ := h; rfl) | (obtain ⟨_, _, _, _, _, _, _, _, _, _, _, _, rfl⟩ := h; rfl) | (obtain ⟨_, _, _, _, _, _, _, _, _, _, _, _, _, rfl⟩ := h; rfl))) (fun _ _ _ _ _ _ us hl => match us, hl with | [_, _], _ => rfl) (fun f cdv A0 outer s H vs Q E hr h => ⟨_, (pss_cons (ps_expr (pe_cal (g_refuse T) (hr.mono (by decide)) (passes_call (takes_of rfl rfl rfl rfl) (fun _ _ _ _ h => h)) (pa_cons (pe_cmp (pc_dnotin (hu_of hr) (pv 1) (pe_get (ks := kDesk) (i := 1) T.cDesk T.nDesk_kept (by decide +kernel) (pv 0))) (by rfl)) (pa_cons (pe_gi T.i_NONE_THERE) pa_nil))))
      (pss_cons (ps_put (ks := kDesk) (i := 0) T.cDesk T.nDesk_game (by decide +kernel) (by decide) (pv 0) (pe_mth0 (ks := kGame) T.cGame (by decide +kernel) (m_Game_copied T) (hr.mono (by decide)) pass0 (pe_dget (hu_of hr) (pe_get (ks := kDesk) (i := 1) T.cDesk T.nDesk_kept (by decide +kernel) (pv 0)) (pv 1) (fun _ _ => rfl))) rfl)
      (pss_one (ps_ret (pe_op op_cat (pe_mth0 (ks := kGame) T.cGame (by decide +kernel) (m_Game_stands T) (hr.mono (by decide)) pass0 (pe_get (ks := kDesk) (i := 0) T.cDesk T.nDesk_game (by decide +kernel) (pv 0))) (pe_lst (pa_cons (pe_get (ks := kGame) (i := 2) T.cGame T.nGame_left (by decide +kernel) (pe_get (ks := kDesk) (i := 0) T.cDesk T.nDesk_game (by decide +kernel) (pv 0))) pa_nil))))))), ?_⟩)
  obtain ⟨Z, own, d, kd, m, n, rfl, hD, ok, k⟩ := h
  obtain ⟨dx, g, cl, pl, kvs, hd, hG, hk, hK, hc, hz⟩ := id hD.ex
  refine ⟨_, rfl, _, rfl, _, _, _, _, rfl, hd, rfl, kd, _, rfl, DGet.k (k := .inl (n : Int)) hk, ?_⟩
  rcases hK n with ⟨q1, q2⟩ | ⟨gm, a, q1, q2, q3⟩
  · rw [q2]
    have e : dLoad m n = .no (-2) := by unfold dLoad; rw [q1]
    rw [e] at k
    exact ⟨_, _, rfl, fun z => (by cases z), fun _ => k⟩
  · rw [q2]
    have e : dLoad m n = .yes (gm.stands ++ [gm.left]) { m with game := gm } := by unfold dLoad; rw [q1]
    rw [e] at k
    refine ⟨_, _, rfl, fun _ => ?_, fun z => by cases z⟩
    obtain ⟨as, hL, hC⟩ := q3
    have okg := ok.k n gm q1
    have has : as ≠ [] := fun z => by
      have q := hC.len
      rw [z, okg.lc] at q
      cases q
    have hL' := hL.mono hide_le
    obtain ⟨ax, acl, apl, a1, a2, a3⟩ := id hL'
    refine ⟨_, rfl, _, _, _, _, rfl, hd, rfl, _, rfl, kd, .ref a, rfl, ?_, ?_⟩
    · rw [← q2]; exact DGet.k (k := .inl (n : Int)) hk
    refine ⟨a, _, _, rfl, a1, a, as, gm, rfl, hL', has, fun H1 g2 gn => ?_⟩
    obtain ⟨cl2, pl2, hG1, f1, f2⟩ := gn.at_ hG.live hC
    refine ⟨_, rfl, _, _, _, rfl, gn.same _ _ hd, (by show 0 < 2; decide), ?_⟩
    have hD1 := DeskAt.newgame hD hd hk hK hc gn.same hG1 (sub3 gn.fg f1 f2) inc3 (none3 gn.fg f1 f2)
    have fr1 : Fr (wk Z own) H (upd H1 d (.ins A.desk dx (kz kDesk [.ref g2, .ref kd]))) := (Fr.same gn.same).upd hD.wd
    have hG2 := hG1.other (o := .ins A.desk dx (kz kDesk [.ref g2, .ref kd])) (inc3 _ hD.od) (nd3 (gn.same _ _ hd) hG1)
    obtain ⟨gx1, as1, g4, _⟩ := id hG2.ex
    have hd1 : upd H1 d (.ins A.desk dx (kz kDesk [.ref g2, .ref kd])) d = _ := upd_same
    refine ⟨_, rfl, _, _, _, _, rfl, hd1, rfl, _, _, _, rfl, g4, g2, gm, rfl, hG2.r, okg, fun p hp => ?_⟩
    refine ⟨_, rfl, _, _, _, _, rfl, same_new hp _ _ hd1, rfl, _, _, _, _, rfl, same_new hp _ _ g4, rfl, (by show 1 ≤ sizeLine; decide), fun q hq => ⟨p, q, _, _, rfl, rfl, same_new hq _ _ upd_same, upd_same, (by show 5 ≤ sizeLine; decide), fun r hr => ?_⟩⟩
    exact k.fin3 hD1 (ok_game ok okg) (sub3 gn.fg f1 f2) inc3 fr1 hp hq hr
end
end SC
/-! SC18: a desk's methods, the second part. -/
namespace SC
open PySem PySem.Spec PyProof.Rows L2
theorem cells_get {c : CM} (ok : c.Ok) {x y : Nat} (hx : x < c.w) (hy : y < c.h) : c.cells[y * c.w + x]? = some (c.cells.getD (y * c.w + x) 0) := by
  have : y * c.w + x < c.cells.length := by
    rw [ok.lc, Nat.mul_comm c.w c.h]
    have := Nat.mul_le_mul_right c.w (Nat.succ_le_of_lt hy)
    rw [Nat.succ_mul] at this
    omega
  rw [List.getD_eq_getElem?_getD, List.getElem?_eq_getElem this]; rfl
theorem fold_ok {m : GM} (ok : m.Ok) {l : List Nat} (h4 : ∀ k ∈ l, k ≤ 4) (hn : m.now.st = 0 → m.keys.length + l.length ≤ 400) : ∀ i, i ≤ l.length → ((l.take i).foldl GM.tick m).Ok ∧ ((l.take i).foldl GM.tick m).keys.length ≤ m.keys.length + i ∧ (((l.take i).foldl GM.tick m).now.st = 0 → m.now.st = 0)
  | 0, _ => ⟨ok, Nat.le_refl _, fun h => h⟩
  | i + 1, hi => by
    obtain ⟨h1, h2, h3⟩ := fold_ok ok h4 hn i (Nat.le_of_succ_le hi)
    have hg : l[i]? = some l[i] := List.getElem?_eq_getElem hi
    have hm : l[i] ≤ 4 := h4 _ (List.getElem_mem _)
    rw [take_snoc hg, List.foldl_append]
    show (((l.take i).foldl GM.tick m).tick l[i]).Ok ∧ (((l.take i).foldl GM.tick m).tick l[i]).keys.length ≤ _ ∧ ((((l.take i).foldl GM.tick m).tick l[i]).now.st = 0 → _)
    refine ⟨tick_ok h1 hm fun c => by have := hn (h3 c); omega, ?_, fun c => ?_⟩
    · by_cases c : ((l.take i).foldl GM.tick m).now.st = 0
      · rw [tick_go c]; show (((l.take i).foldl GM.tick m).keys ++ [l[i]]).length ≤ _; rw [List.length_append]; exact Nat.succ_le_succ h2
      · rw [tick_no c]; omega
    · by_cases c' : ((l.take i).foldl GM.tick m).now.st = 0
      · exact h3 c'
      · rw [tick_no c'] at c; exact absurd c c'
theorem new2 {H : Hp} {g cl pl x y : Addr} (h1 : H x = none) (h2 : H y = none) : ∀ b ∈ [x, y], b ∈ [g, cl, pl] ∨ H b = none := fun b hb => by
  rcases List.mem_cons.mp hb with q | q
  · rw [q]; exact .inr h1
  · rw [List.mem_singleton.mp q]; exact .inr h2
theorem text_le {c : CM} (ok : c.Ok) : c.text.length ≤ 294 := by
  have h1 := text_len ok c.h
  have h2 := ok.hh.2
  have : c.h * 21 ≤ 14 * 21 := Nat.mul_le_mul_right _ h2
  unfold CM.text
  omega
section
variable {P : Program} {w : World} {K : PySem.W.Frag} {mg : Str → Option Value} {base : Heap} {A : Ad}
theorem sc_Desk_place : FnScope ["self", "across", "down", "cave"] ["self", "across", "down"] (defScope (inClass (topS 59) 8)) := ⟨rfl, rfl, rfl, by decide +kernel, rfl, by decide +kernel, by decide +kernel⟩
theorem sc_Desk_seen : FnScope ["self", "tick"] ["self", "tick"] (defScope (inClass (topS 59) 9)) := ⟨rfl, rfl, rfl, by decide +kernel, rfl, by decide +kernel, by decide +kernel⟩
theorem sc_Desk_back : FnScope ["self", "tick"] ["self", "tick"] (defScope (inClass (topS 59) 10)) := ⟨rfl, rfl, rfl, by decide +kernel, rfl, by decide +kernel, by decide +kernel⟩
theorem sc_Desk_play : FnScope ["self", "pressed", "key"] ["self", "pressed"] (defScope (inClass (topS 59) 11)) := ⟨rfl, rfl, rfl, by decide +kernel, rfl, by decide +kernel, by decide +kernel⟩
theorem sc_Desk_differ : FnScope ["self", "where", "found"] ["self", "where"] (defScope (inClass (topS 59) 12)) := ⟨rfl, rfl, rfl, by decide +kernel, rfl, by decide +kernel, by decide +kernel⟩
theorem sc_Desk_cave : FnScope ["self", "row", "fault", "byte"] ["self", "row"] (defScope (inClass (topS 59) 1)) := ⟨rfl, rfl, rfl, by decide +kernel, rfl, by decide +kernel, by decide +kernel⟩
theorem m_Desk_place (T : Txt K mg A) : MethOk P w K mg base (L2.CX P w) 4 A.desk "place" ["self", "across", "down"] (spD2 A dPlace) := by
  refine T.d_Desk_place.okX (N := ["self", "across", "down", "cave"]) sc_Desk_place (fun vs H Q E h => (by first | (obtain ⟨rfl, _⟩ := h; rfl) | (obtain ⟨_, rfl, _⟩ := h; rfl) | (obtain ⟨_, _, rfl, _⟩ := h; rfl) | (obtain ⟨_, _, _, rfl, _⟩ := h; rfl) | (obtain ⟨_, _, _, _, rfl, _⟩ := h; rfl) | (obtain ⟨_, _, _, _, _, rfl, _⟩ := h; rfl) | (obtain ⟨_, _, _, _, _, _, rfl, _⟩ := h; rfl) | (obtain ⟨_, _, _, _, _, _, _, rfl, _⟩ := h; rfl) | (obtain ⟨_, _, _, _, _, _, _, _, rfl, _⟩ := h; rfl) | (obtain ⟨_, _, _, _, _, _, _, _, _, rfl, _⟩ := h; rfl) | (obtain ⟨_, _, _, _, _, _, _, _, _, _, rfl, _⟩ := h; rfl) | (obtain ⟨_, _, _, _, _, _, _, _, _, _, _, rfl, _⟩ := h; rfl) | (obtain ⟨_, _, _, _, _, _, _, _, _, _, _, _, rfl, _⟩ := h; rfl) | (obtain ⟨_, _, _, _, _, _, _, _, _, _, _, _, _, rfl, _⟩ := h; rfl) | (obtain ⟨rfl⟩ := h; rfl) | (obtain ⟨_, rfl⟩ := h; rfl) | (obtain ⟨_, _, rfl⟩ := h; rfl) | (obtain ⟨_, _, _, rfl⟩ := h; rfl) | (obtain ⟨_, _, _, _, rfl⟩ := h; rfl) | (obtain ⟨_, _, _, _, _, rfl⟩ := h; rfl) | (obtain ⟨_, _, _, _, _, _, rfl⟩ := h; rfl) | (obtain ⟨_, _, _, _, _, _, _, rfl⟩ := h; rfl) | (obtain ⟨_, _, _, _, _, _, _, _, rfl⟩ := h; rfl) | (obtain ⟨_, _, _, _, _, _, _, _, _, rfl⟩ := h; rfl) | (obtain ⟨_, _, _, _, _, _, _, _, _, _, rfl⟩ := h; rfl) | (obtain ⟨_, _, _, _, _, _, _, _, _, _, _, rfl⟩ := h; rfl) | (obtain ⟨_, _, _, _, _, _, _, _, _, _, _, _, rfl⟩ := h; rfl) | (obtain ⟨_, _, _, _, _, _, _, _, _, _, _, _, _, rfl⟩ := h; rfl))) (fun _ _ _ _ _ _ us hl => match us, hl with | [_, _, _], _ => rfl) (fun f cdv A0 outer s H vs Q E hr h => ⟨_, (pss_cons (ps_set (i := 3) sc_Desk_place.nd rfl (by first | exact Or.inl rfl | exact Or.inr rfl) (pe_mth0 (ks := kGame) T.cGame (by decide +kernel) (m_Game_now T) (hr.mono (by decide)) pass0 (pe_get (ks := kDesk) (i := 0) T.cDesk T.nDesk_game (by decide +kernel) (pv 0))))
      (pss_cons (ps_expr (pe_cal (g_refuse T) (hr.mono (by decide)) (passes_call (takes_of rfl rfl rfl rfl) (fun _ _ _ _ h => h)) (pa_cons (pe_or (pe_cmpR op_ge (pv 1) (pe_get (ks := kCave) (i := 0) T.cCave T.nCave_wide (by decide +kernel) (pv 3)) (nomark _)) (pe_one (pe_cmpR op_ge (pv 2) (pe_get (ks := kCave) (i := 1) T.cCave T.nCave_high (by decide +kernel) (pv 3)) (nomark _)))) (pa_cons (pe_gi T.i_NONE_THERE) pa_nil))))
      (pss_one (ps_ret (pe_lst (pa_cons (pe_ix ix_list (pe_get (ks := kCave) (i := 2) T.cCave T.nCave_cells (by decide +kernel) (pv 3)) (pe_op op_add (pe_op op_mul (pv 2) (pe_get (ks := kCave) (i := 0) T.cCave T.nCave_wide (by decide +kernel) (pv 3))) (pv 1)) (fun _ _ => rfl)) pa_nil)))))), ?_⟩)
  obtain ⟨Z, own, d, kd, m, x, y, rfl, hD, ok, k⟩ := h
  obtain ⟨dx, g, cl, pl, kvs, hd, hG, hk, hK, hc, hz⟩ := id hD.ex
  obtain ⟨gx, as, g1, g2, g3, hC⟩ := id hG.ex
  refine ⟨_, rfl, _, _, _, _, rfl, hd, rfl, _, _, _, rfl, g1, g, m.game, rfl, hG.r, ok.g, fun as' a _ _ ⟨da, ca, a1, a2⟩ => ?_⟩
  have okc := cave_ok ok.g (Nat.le_refl _)
  have bad : m.game.now.w ≤ x ∨ m.game.now.h ≤ y → Let A H E (-2) := fun c => by
    have e : dPlace m x y = .no (-2) := if_pos c
    rw [e] at k
    exact k
  refine ⟨_, rfl, _, rfl, _, _, _, _, rfl, a1, rfl, _, _, rfl, rfl, _, rfl, if_d (fun c => ?_) fun c => ?_⟩
  · exact ⟨_, _, rfl, fun z => (by cases z), fun _ => bad (.inl (by omega))⟩
  · refine ⟨_, rfl, _, rfl, _, _, _, _, rfl, a1, rfl, _, _, rfl, rfl, _, _, rfl, fun hb => ?_, fun hb => ?_⟩
    · have hb' := of_decide_eq_false hb
      have hx : x < m.game.now.w := by omega
      have hy : y < m.game.now.h := by omega
      have e : dPlace m x y = .yes [m.game.now.cells.getD (y * m.game.now.w + x) 0] m := if_neg (by omega)
      rw [e] at k
      have cw : m.game.now.w ≤ 20 := okc.hw.2
      refine ⟨_, rfl, _, _, _, _, rfl, a1, rfl, _, rfl, _, rfl, _, _, _, _, rfl, a1, rfl, _, _, rfl, rfl, (.inr (by omega)), _, rfl, _, _, rfl, rfl, _, _, _, _, rfl, rfl, SqL.of a2, at_ix (j := y * m.game.now.w + x) (by rw [Int.natCast_add, Int.natCast_mul]) (vi_get (cells_get okc hx hy)), (by show 1 ≤ sizeLine; decide), fun p hp => ?_⟩
      exact k.same hD ok (same_new hp) upd_same hp
    · have hb' := of_decide_eq_true hb
      exact bad (.inr (by omega))
theorem m_Desk_seen (T : Txt K mg A) : MethOk P w K mg base (L2.CX P w) 4 A.desk "seen" ["self", "tick"] (spD1 A dSeen) := by
  refine T.d_Desk_seen.okX (N := ["self", "tick"]) sc_Desk_seen (fun vs H Q E h => (by first | (obtain ⟨rfl, _⟩ := h; rfl) | (obtain ⟨_, rfl, _⟩ := h; rfl) | (obtain ⟨_, _, rfl, _⟩ := h; rfl) | (obtain ⟨_, _, _, rfl, _⟩ := h; rfl) | (obtain ⟨_, _, _, _, rfl, _⟩ := h; rfl) | (obtain ⟨_, _, _, _, _, rfl, _⟩ := h; rfl) | (obtain ⟨_, _, _, _, _, _, rfl, _⟩ := h; rfl) | (obtain ⟨_, _, _, _, _, _, _, rfl, _⟩ := h; rfl) | (obtain ⟨_, _, _, _, _, _, _, _, rfl, _⟩ := h; rfl) | (obtain ⟨_, _, _, _, _, _, _, _, _, rfl, _⟩ := h; rfl) | (obtain ⟨_, _, _, _, _, _, _, _, _, _, rfl, _⟩ := h; rfl) | (obtain ⟨_, _, _, _, _, _, _, _, _, _, _, rfl, _⟩ := h; rfl) | (obtain ⟨_, _, _, _, _, _, _, _, _, _, _, _, rfl, _⟩ := h; rfl) | (obtain ⟨_, _, _, _, _, _, _, _, _, _, _, _, _, rfl, _⟩ := h; rfl) | (obtain ⟨rfl⟩ := h; rfl) | (obtain ⟨_, rfl⟩ := h; rfl) | (obtain ⟨_, _, rfl⟩ := h; rfl) | (obtain ⟨_, _, _, rfl⟩ := h; rfl) | (obtain ⟨_, _, _, _, rfl⟩ := h; rfl) | (obtain ⟨_, _, _, _, _, rfl⟩ := h; rfl) | (obtain ⟨_, _, _, _, _, _, rfl⟩ := h; rfl) | (obtain ⟨_, _, _, _, _, _, _, rfl⟩ := h; rfl) | (obtain ⟨_, _, _, _, _, _, _, _, rfl⟩ := h; rfl) | (obtain ⟨_, _, _, _, _, _, _, _, _, rfl⟩ := h; rfl) | (obtain ⟨_, _, _, _, _, _, _, _, _, _, rfl⟩ := h; rfl) | (obtain ⟨_, _, _, _, _, _, _, _, _, _, _, rfl⟩ := h; rfl) | (obtain ⟨_, _, _, _, _, _, _, _, _, _, _, _, rfl⟩ := h; rfl) | (obtain ⟨_, _, _, _, _, _, _, _, _, _, _, _, _, rfl⟩ := h; rfl))) (fun _ _ _ _ _ _ us hl => match us, hl with | [_, _], _ => rfl) (fun f cdv A0 outer s H vs Q E hr h => ⟨_, (pss_cons (ps_expr (pe_cal (g_refuse T) (hr.mono (by decide)) (passes_call (takes_of rfl rfl rfl rfl) (fun _ _ _ _ h => h)) (pa_cons (pe_cmpR op_gt (pv 1) (pe_mth0 (ks := kGame) T.cGame (by decide +kernel) (m_Game_many T) (hr.mono (by decide)) pass0 (pe_get (ks := kDesk) (i := 0) T.cDesk T.nDesk_game (by decide +kernel) (pv 0))) (nomark _)) (pa_cons (pe_gi T.i_NONE_THERE) pa_nil))))
      (pss_one (ps_ret (pe_op op_cat (pe_mth (ks := kGame) T.cGame (by decide +kernel) (m_Game_stood T) (hr.mono (by decide)) pass0 (pe_get (ks := kDesk) (i := 0) T.cDesk T.nDesk_game (by decide +kernel) (pv 0)) (pa_cons (pv 1) pa_nil)) (pe_cal (g_counted T) (hr.mono (by decide)) pass0 (pa_cons (pe_mth0 (ks := kCave) T.cCave (by decide +kernel) (m_Cave_written T) (hr.mono (by decide)) pass0 (pe_ix ix_list (pe_get (ks := kGame) (i := 0) T.cGame T.nGame_caves (by decide +kernel) (pe_get (ks := kDesk) (i := 0) T.cDesk T.nDesk_game (by decide +kernel) (pv 0))) (pv 1) (fun _ _ => rfl))) pa_nil)))))), ?_⟩)
  obtain ⟨Z, own, d, kd, m, n, rfl, hD, ok, k⟩ := h
  obtain ⟨dx, g, cl, pl, kvs, hd, hG, hk, hK, hc, hz⟩ := id hD.ex
  obtain ⟨gx, as, g1, g2, g3, hC⟩ := id hG.ex
  refine ⟨_, rfl, _, rfl, _, _, _, _, rfl, hd, rfl, _, _, _, rfl, g1, g, m.game, rfl, hG.r, _, _, rfl, rfl, _, _, rfl, fun hb => ?_, fun hb => ?_⟩
  · have hn : ¬ m.game.keys.length < n := by have := of_decide_eq_false hb; omega
    have e : dSeen m n = .yes (m.game.stood n ++ ((m.game.cave n).text.length :: (m.game.cave n).text)) m := if_neg hn
    rw [e] at k
    have okc := cave_ok ok.g (k := n) (by omega)
    obtain ⟨a, ha, hca⟩ := (hC.mono hide_le).get (cave_get ok.g (k := n) (by omega))
    refine ⟨_, rfl, _, _, _, _, rfl, hd, rfl, _, _, _, rfl, g1, _, rfl, g, m.game, n, rfl, hG.r, ok.g, by omega, fun p hp => ?_⟩
    obtain ⟨da, ca, a1, a2⟩ := id (hca.mono (same_new (o := .lst (vi (m.game.stood n))) hp))
    refine ⟨_, rfl, _, _, _, _, rfl, same_new hp _ _ hd, rfl, _, _, _, _, rfl, same_new hp _ _ g1, rfl, _, rfl, _, _, _, _, rfl, rfl, SqL.of (same_new hp _ _ g2), at_ix (j := n) rfl (vr_get ha), ?_⟩
    refine ⟨_, _, _, rfl, a1, a, m.game.cave n, rfl, ⟨da, ca, a1, a2⟩, okc, fun H1 q s1 hq hq1 => ?_⟩
    have ht := text_le okc
    refine ⟨q, _, rfl, hq1, by omega, fun H2 r s2 hr hr1 => ?_⟩
    have sH2 : Same H H2 := fun b o z => s2 _ _ (s1 _ _ (same_new hp _ _ z))
    refine ⟨p, r, _, _, rfl, rfl, s2 _ _ (s1 _ _ upd_same), hr1, ?_, fun t ht' => ?_⟩
    · have : (1000 : Nat) ≤ sizeLine := by decide
      rw [vi_len, vi_len, List.length_cons]
      show 4 + _ ≤ _
      omega
    · exact k.same hD ok (same_up sH2 (new_none sH2 ht')) (by rw [upd_same, vi_app]) (new_none sH2 ht')
  · have hn : m.game.keys.length < n := by have := of_decide_eq_true hb; omega
    have e : dSeen m n = .no (-2) := if_pos hn
    rw [e] at k
    exact k
theorem m_Desk_back (T : Txt K mg A) : MethOk P w K mg base (L2.CX P w) 4 A.desk "back" ["self", "tick"] (spD1 A dBack) := by
  refine T.d_Desk_back.okX (N := ["self", "tick"]) sc_Desk_back (fun vs H Q E h => (by first | (obtain ⟨rfl, _⟩ := h; rfl) | (obtain ⟨_, rfl, _⟩ := h; rfl) | (obtain ⟨_, _, rfl, _⟩ := h; rfl) | (obtain ⟨_, _, _, rfl, _⟩ := h; rfl) | (obtain ⟨_, _, _, _, rfl, _⟩ := h; rfl) | (obtain ⟨_, _, _, _, _, rfl, _⟩ := h; rfl) | (obtain ⟨_, _, _, _, _, _, rfl, _⟩ := h; rfl) | (obtain ⟨_, _, _, _, _, _, _, rfl, _⟩ := h; rfl) | (obtain ⟨_, _, _, _, _, _, _, _, rfl, _⟩ := h; rfl) | (obtain ⟨_, _, _, _, _, _, _, _, _, rfl, _⟩ := h; rfl) | (obtain ⟨_, _, _, _, _, _, _, _, _, _, rfl, _⟩ := h; rfl) | (obtain ⟨_, _, _, _, _, _, _, _, _, _, _, rfl, _⟩ := h; rfl) | (obtain ⟨_, _, _, _, _, _, _, _, _, _, _, _, rfl, _⟩ := h; rfl) | (obtain ⟨_, _, _, _, _, _, _, _, _, _, _, _, _, rfl, _⟩ := h; rfl) | (obtain ⟨rfl⟩ := h; rfl) | (obtain ⟨_, rfl⟩ := h; rfl) | (obtain ⟨_, _, rfl⟩ := h; rfl) | (obtain ⟨_, _, _, rfl⟩ := h; rfl) | (obtain ⟨_, _, _, _, rfl⟩ := h; rfl) | (obtain ⟨_, _, _, _, _, rfl⟩ := h; rfl) | (obtain ⟨_, _, _, _, _, _, rfl⟩ := h; rfl) | (obtain ⟨_, _, _, _, _, _, _, rfl⟩ := h; rfl) | (obtain ⟨_, _, _, _, _, _, _, _, rfl⟩ := h; rfl) | (obtain ⟨_, _, _, _, _, _, _, _, _, rfl⟩ := h; rfl) | (obtain ⟨_, _, _, _, _, _, _, _, _, _, rfl⟩ := h; rfl) | (obtain ⟨_, _, _, _, _, _, _, _, _, _, _, rfl⟩ := h; rfl) | (obtain ⟨_, _, _, _, _, _, _, _, _, _, _, _, rfl⟩ := h; rfl) | (obtain ⟨_, _, _, _, _, _, _, _, _, _, _, _, _, rfl⟩ := h; rfl))) (fun _ _ _ _ _ _ us hl => match us, hl with | [_, _], _ => rfl) (fun f cdv A0 outer s H vs Q E hr h => ⟨_, (pss_cons (ps_expr (pe_cal (g_refuse T) (hr.mono (by decide)) (passes_call (takes_of rfl rfl rfl rfl) (fun _ _ _ _ h => h)) (pa_cons (pe_cmpR op_gt (pv 1) (pe_mth0 (ks := kGame) T.cGame (by decide +kernel) (m_Game_many T) (hr.mono (by decide)) pass0 (pe_get (ks := kDesk) (i := 0) T.cDesk T.nDesk_game (by decide +kernel) (pv 0))) (nomark _)) (pa_cons (pe_gi T.i_NONE_THERE) pa_nil))))
      (pss_cons (ps_expr (pe_mth (ks := kGame) T.cGame (by decide +kernel) (m_Game_back T) (hr.mono (by decide)) pass0 (pe_get (ks := kDesk) (i := 0) T.cDesk T.nDesk_game (by decide +kernel) (pv 0)) (pa_cons (pv 1) pa_nil)))
      (pss_one (ps_ret (pe_mth0 (ks := kGame) T.cGame (by decide +kernel) (m_Game_stands T) (hr.mono (by decide)) pass0 (pe_get (ks := kDesk) (i := 0) T.cDesk T.nDesk_game (by decide +kernel) (pv 0))))))), ?_⟩)
  obtain ⟨Z, own, d, kd, m, n, rfl, hD, ok, k⟩ := h
  obtain ⟨dx, g, cl, pl, kvs, hd, hG, hk, hK, hc, hz⟩ := id hD.ex
  obtain ⟨gx, as, g1, g2, g3, hC⟩ := id hG.ex
  refine ⟨_, rfl, _, rfl, _, _, _, _, rfl, hd, rfl, _, _, _, rfl, g1, g, m.game, rfl, hG.r, _, _, rfl, rfl, _, _, rfl, fun hb => ?_, fun hb => ?_⟩
  · have hn : ¬ m.game.keys.length < n := by have := of_decide_eq_false hb; omega
    have e : dBack m n = .yes (m.game.back n).stands { m with game := m.game.back n } := if_neg hn
    rw [e] at k
    refine ⟨_, rfl, _, _, _, _, rfl, hd, rfl, _, _, _, rfl, g1, _, rfl, own, g, cl, pl, m.game, n, rfl, hG, ok.g, by omega, fun H1 cl1 pl1 hG1 n1 n2 f1 => ?_⟩
    have sub : Sub own H (cl1 :: pl1 :: own) := fun b hb => by
      rcases List.mem_cons.mp hb with q | q
      · rw [q]; exact .inr n1
      · rcases List.mem_cons.mp q with q | q
        · rw [q]; exact .inr n2
        · exact .inl q
    have inc : ∀ b ∈ own, b ∈ cl1 :: pl1 :: own := fun b z => List.mem_cons_of_mem _ (List.mem_cons_of_mem _ z)
    have hD1 := DeskAt.regame hD hd hG hk hK hc hz hG1 f1 sub inc (new2 n1 n2)
    have ok1 := back_ok ok.g (k := n) (by omega)
    obtain ⟨gx1, as1, g4, _⟩ := id hG1.ex
    refine ⟨_, rfl, _, _, _, _, rfl, f1 _ _ hd (nd3 hd hG), rfl, _, _, _, rfl, g4, g, _, rfl, hG1.r, ok1, fun p hp => ?_⟩
    exact k.fin hD1 (ok_game ok ok1) sub inc (f1.mono (wk3 hG hz)) (same_new hp) upd_same hp
  · have hn : m.game.keys.length < n := by have := of_decide_eq_true hb; omega
    have e : dBack m n = .no (-2) := if_pos hn
    rw [e] at k
    exact k
theorem m_Desk_differ (T : Txt K mg A) : MethOk P w K mg base (L2.CX P w) 4 A.desk "differ" ["self", "where"] (spD1 A dDiffer) := by
  refine T.d_Desk_differ.okX (N := ["self", "where", "found"]) sc_Desk_differ (fun vs H Q E h => (by first | (obtain ⟨rfl, _⟩ := h; rfl) | (obtain ⟨_, rfl, _⟩ := h; rfl) | (obtain ⟨_, _, rfl, _⟩ := h; rfl) | (obtain ⟨_, _, _, rfl, _⟩ := h; rfl) | (obtain ⟨_, _, _, _, rfl, _⟩ := h; rfl) | (obtain ⟨_, _, _, _, _, rfl, _⟩ := h; rfl) | (obtain ⟨_, _, _, _, _, _, rfl, _⟩ := h; rfl) | (obtain ⟨_, _, _, _, _, _, _, rfl, _⟩ := h; rfl) | (obtain ⟨_, _, _, _, _, _, _, _, rfl, _⟩ := h; rfl) | (obtain ⟨_, _, _, _, _, _, _, _, _, rfl, _⟩ := h; rfl) | (obtain ⟨_, _, _, _, _, _, _, _, _, _, rfl, _⟩ := h; rfl) | (obtain ⟨_, _, _, _, _, _, _, _, _, _, _, rfl, _⟩ := h; rfl) | (obtain ⟨_, _, _, _, _, _, _, _, _, _, _, _, rfl, _⟩ := h; rfl) | (obtain ⟨_, _, _, _, _, _, _, _, _, _, _, _, _, rfl, _⟩ := h; rfl) | (obtain ⟨rfl⟩ := h; rfl) | (obtain ⟨_, rfl⟩ := h; rfl) | (obtain ⟨_, _, rfl⟩ := h; rfl) | (obtain ⟨_, _, _, rfl⟩ := h; rfl) | (obtain ⟨_, _, _, _, rfl⟩ := h; rfl) | (obtain ⟨_, _, _, _, _, rfl⟩ := h; rfl) | (obtain ⟨_, _, _, _, _, _, rfl⟩ := h; rfl) | (obtain ⟨_, _, _, _, _, _, _, rfl⟩ := h; rfl) | (obtain ⟨_, _, _, _, _, _, _, _, rfl⟩ := h; rfl) | (obtain ⟨_, _, _, _, _, _, _, _, _, rfl⟩ := h; rfl) | (obtain ⟨_, _, _, _, _, _, _, _, _, _, rfl⟩ := h; rfl) | (obtain ⟨_, _, _, _, _, _, _, _, _, _, _, rfl⟩ := h; rfl) | (obtain ⟨_, _, _, _, _, _, _, _, _, _, _, _, rfl⟩ := h; rfl) | (obtain ⟨_, _, _, _, _, _, _, _, _, _, _, _, _, rfl⟩ := h; rfl))) (fun _ _ _ _ _ _ us hl => match us, hl with | [_, _], _ => rfl) (fun f cdv A0 outer s H vs Q E hr h => ⟨_, (pss_cons (ps_expr (pe_cal (g_refuse T) (hr.mono (by decide)) (passes_call (takes_of rfl rfl rfl rfl) (fun _ _ _ _ h => h)) (pa_cons (pe_cmp (pc_dnotin (hu_of hr) (pv 1) (pe_get (ks := kDesk) (i := 1) T.cDesk T.nDesk_kept (by decide +kernel) (pv 0))) (by rfl)) (pa_cons (pe_gi T.i_NONE_THERE) pa_nil))))
      (pss_cons (ps_set (i := 2) sc_Desk_differ.nd rfl (by first | exact Or.inl rfl | exact Or.inr rfl) (pe_mth (ks := kGame) T.cGame (by decide +kernel) (m_Game_parts_from T) (hr.mono (by decide)) pass0 (pe_get (ks := kDesk) (i := 0) T.cDesk T.nDesk_game (by decide +kernel) (pv 0)) (pa_cons (pe_dget (hu_of hr) (pe_get (ks := kDesk) (i := 1) T.cDesk T.nDesk_kept (by decide +kernel) (pv 0)) (pv 1) (fun _ _ => rfl)) pa_nil)))
      (pss_cons (ps_expr (pe_cal (g_refuse T) (hr.mono (by decide)) (passes_call (takes_of rfl rfl rfl rfl) (fun _ _ _ _ h => h)) (pa_cons (pe_cmpR op_isN (pv 2) pe_non (nomark _)) (pa_cons (pe_gi T.i_ALIKE) pa_nil))))
      (pss_one (ps_ret (pe_lst (pa_cons (pv 2) pa_nil))))))), ?_⟩)
  obtain ⟨Z, own, d, kd, m, n, rfl, hD, ok, k⟩ := h
  obtain ⟨dx, g, cl, pl, kvs, hd, hG, hk, hK, hc, hz⟩ := id hD.ex
  obtain ⟨gx, as0, g1, _⟩ := id hG.ex
  refine ⟨_, rfl, _, rfl, _, _, _, _, rfl, hd, rfl, kd, _, rfl, DGet.k (k := .inl (n : Int)) hk, ?_⟩
  rcases hK n with ⟨q1, q2⟩ | ⟨gm, a, q1, q2, q3⟩
  · rw [q2]
    have e : dDiffer m n = .no (-2) := by unfold dDiffer; rw [q1]
    rw [e] at k
    exact ⟨_, _, rfl, fun z => (by cases z), fun _ => k⟩
  · rw [q2]
    refine ⟨_, _, rfl, fun _ => ?_, fun z => (by cases z)⟩
    refine ⟨_, rfl, _, _, _, _, rfl, hd, rfl, _, _, _, rfl, g1, _, rfl, _, _, _, _, rfl, hd, rfl, _, rfl, kd, .ref a, rfl, ?_, ?_⟩
    · rw [← q2]; exact DGet.k (k := .inl (n : Int)) hk
    refine ⟨g, a, m.game, gm, rfl, hG.r, q3.mono hide_le, fun H1 s1 => ?_⟩
    cases hp : m.game.parts gm with
    | none =>
      have e : dDiffer m n = .no (-6) := by unfold dDiffer; rw [q1]; dsimp only; rw [hp]
      rw [e] at k
      exact ⟨_, rfl, rfl, _, _, rfl, fun z => (by cases z), fun _ => Let.mono k s1⟩
    | some j =>
      have e : dDiffer m n = .yes [j] m := by unfold dDiffer; rw [q1]; dsimp only; rw [hp]
      rw [e] at k
      refine ⟨_, rfl, rfl, _, _, rfl, fun _ => ⟨_, rfl, (by show 1 ≤ sizeLine; decide), fun p hp => ?_⟩, fun z => (by cases z)⟩
      exact k.same hD ok (same_up s1 (new_none s1 hp)) upd_same (new_none s1 hp)
/-- any(.. > c ..) over a row -/
theorem anyGt (c : Nat) (l : List Nat) : (l.map fun b => decide (c < b)).any id = l.any fun b => decide (c < b) := by
  rw [List.any_map]; rfl
theorem m_Desk_play (T : Txt K mg A) : MethOk P w K mg base (L2.CX P w) 9 A.desk "play" ["self", "pressed"] (spDR A K dPlay) := by
  refine T.d_Desk_play.okX (N := ["self", "pressed", "key"]) sc_Desk_play (fun vs H Q E h => (by first | (obtain ⟨rfl, _⟩ := h; rfl) | (obtain ⟨_, rfl, _⟩ := h; rfl) | (obtain ⟨_, _, rfl, _⟩ := h; rfl) | (obtain ⟨_, _, _, rfl, _⟩ := h; rfl) | (obtain ⟨_, _, _, _, rfl, _⟩ := h; rfl) | (obtain ⟨_, _, _, _, _, rfl, _⟩ := h; rfl) | (obtain ⟨_, _, _, _, _, _, rfl, _⟩ := h; rfl) | (obtain ⟨_, _, _, _, _, _, _, rfl, _⟩ := h; rfl) | (obtain ⟨_, _, _, _, _, _, _, _, rfl, _⟩ := h; rfl) | (obtain ⟨_, _, _, _, _, _, _, _, _, rfl, _⟩ := h; rfl) | (obtain ⟨_, _, _, _, _, _, _, _, _, _, rfl, _⟩ := h; rfl) | (obtain ⟨_, _, _, _, _, _, _, _, _, _, _, rfl, _⟩ := h; rfl) | (obtain ⟨_, _, _, _, _, _, _, _, _, _, _, _, rfl, _⟩ := h; rfl) | (obtain ⟨_, _, _, _, _, _, _, _, _, _, _, _, _, rfl, _⟩ := h; rfl) | (obtain ⟨rfl⟩ := h; rfl) | (obtain ⟨_, rfl⟩ := h; rfl) | (obtain ⟨_, _, rfl⟩ := h; rfl) | (obtain ⟨_, _, _, rfl⟩ := h; rfl) | (obtain ⟨_, _, _, _, rfl⟩ := h; rfl) | (obtain ⟨_, _, _, _, _, rfl⟩ := h; rfl) | (obtain ⟨_, _, _, _, _, _, rfl⟩ := h; rfl) | (obtain ⟨_, _, _, _, _, _, _, rfl⟩ := h; rfl) | (obtain ⟨_, _, _, _, _, _, _, _, rfl⟩ := h; rfl) | (obtain ⟨_, _, _, _, _, _, _, _, _, rfl⟩ := h; rfl) | (obtain ⟨_, _, _, _, _, _, _, _, _, _, rfl⟩ := h; rfl) | (obtain ⟨_, _, _, _, _, _, _, _, _, _, _, rfl⟩ := h; rfl) | (obtain ⟨_, _, _, _, _, _, _, _, _, _, _, _, rfl⟩ := h; rfl) | (obtain ⟨_, _, _, _, _, _, _, _, _, _, _, _, _, rfl⟩ := h; rfl))) (fun _ _ _ _ _ _ us hl => match us, hl with | [_, _], _ => rfl) (fun f cdv A0 outer s H vs Q E hr h => ⟨_, (pss_cons (ps_expr (pe_cal (g_refuse T) (hr.mono (by decide)) (passes_call (takes_of rfl rfl rfl rfl) (fun _ _ _ _ h => h)) (pa_cons (pe_or (pe_cmpR op_gt (pe_callB call_len_seq (by rfl) T.b_len PySem.boot_len (pa_cons (pv 1) pa_nil)) (pe_gi T.i_MOST_PRESSED) (nomark _)) (pe_one (pe_callB (cr_any rfl) (by rfl) T.b_any (by decide +kernel) (pa_cons (pe_lc (own := [("key", 2)]) (g := gName 2) (by rfl) sc_Desk_play.nd (pi_list (pv 1)) (blkOk_by (own := [("key", 2)]) (N := ["self", "pressed", "key"]) (sc := defScope (inClass (topS 59) 11)) (by decide +kernel)) (fun _ _ _ _ _ => pg_name (i := 2) sc_Desk_play.nd rfl (Or.inl rfl)) (fun _ _ _ _ _ => pts_nil) (fun _ _ _ _ _ => (pe_cmpR op_gt (pv 2) (pe_gi T.i_MOST_KEY) (nomark _)))) pa_nil)))) (pa_cons (pe_gi T.i_NOT_AS_TOLD) pa_nil))))
      (pss_cons (ps_expr (pe_mth (ks := kDesk) T.cDesk (by decide +kernel) (m_Desk_need_ticks T) (hr.mono (by decide)) (passes_call (takes_of rfl rfl rfl rfl) (fun _ _ _ _ h => h)) (pv 0) (pa_cons (pe_callB call_len_seq (by rfl) T.b_len PySem.boot_len (pa_cons (pv 1) pa_nil)) pa_nil)))
      (pss_cons (ps_for (passes_of rfl) rfl (pi_list (pv 1)) (pg_name (i := 2) sc_Desk_play.nd rfl (by first | exact Or.inl rfl | exact Or.inr rfl)) (pss_one (ps_expr (pe_mth (ks := kGame) T.cGame (by decide +kernel) (m_Game_tick T) (hr.mono (by decide)) pass0 (pe_get (ks := kDesk) (i := 0) T.cDesk T.nDesk_game (by decide +kernel) (pv 0)) (pa_cons (pv 2) pa_nil)))))
      (pss_one (ps_ret (pe_mth0 (ks := kGame) T.cGame (by decide +kernel) (m_Game_stands T) (hr.mono (by decide)) pass0 (pe_get (ks := kDesk) (i := 0) T.cDesk T.nDesk_game (by decide +kernel) (pv 0)))))))), ?_⟩)
  obtain ⟨Z, own, d, kd, m, r, l, rfl, hD, ok, hr1, hro, hl, k⟩ := h
  obtain ⟨dx, g, cl, pl, kvs, hd, hG, hk, hK, hc, hz⟩ := id hD.ex
  obtain ⟨gx, as0, g1, _⟩ := id hG.ex
  have bad : (100 < l.length ∨ l.any (fun k => decide (4 < k)) = true) → Let A H E (-1) := fun c => by
    have e : dPlay m l = .no (-1) := if_pos c
    rw [e] at k
    exact k
  refine ⟨_, rfl, _, _, rfl, .inl (SqL.of hr1), _, _, rfl, rfl, _, rfl, if_d (fun c => ?_) fun c => ?_⟩
  · rw [vi_len] at c
    exact ⟨_, _, rfl, fun z => (by cases z), fun _ => bad (.inl (by omega))⟩
  · rw [vi_len] at c
    refine ⟨_, rfl, r, rfl, ⟨_, SqL.of hr1⟩, fun D hD0 => lc_list (K := K) (a := r) (xs := vi l) (fun i H' => H' = upd H D (.lst (vb ((l.take i).map fun b => decide (4 < b))))) rfl (fun i H' _ e => by rw [e]; exact SqL.of (same_new hD0 _ _ hr1)) ?_ ?_⟩
    · rintro i x H' hx rfl
      obtain ⟨b, hb, rfl⟩ := vi_of hx
      have hi : i < 400 := by have := (List.getElem?_eq_some_iff.mp hb).1; omega
      refine ⟨rfl, _, rfl, _, _, rfl, rfl, _, upd_same, small1000 (by rw [vb_len, List.length_map, List.length_take]; omega), ?_⟩
      rw [upd_upd, take_snoc hb, List.map_append, vb_app]
      have e4 : V.bl (decide ((4 : Int) < (b : Int))) = V.bl (decide (4 < b)) := congrArg V.bl (ilt 4 b)
      show upd H D (.lst (vb _ ++ [V.bl (decide ((4 : Int) < (b : Int)))])) = _
      rw [e4]; rfl
    rintro H2 rfl
    rw [vi_len, List.take_length]
    have s2 := same_new (o := .lst (vb (l.map fun b => decide (4 < b)))) hD0
    refine ⟨_, (l.map fun b => decide (4 < b)), rfl, SqL.of upd_same, ?_⟩
    rw [anyGt]
    generalize hU : upd H D (.lst (vb (l.map fun b => decide (4 < b)))) = H2 at s2
    clear hU
    refine ⟨_, _, rfl, fun hb => ?_, fun hb => Let.mono (bad (.inr hb)) s2⟩
    have hn1 : ¬ (100 < l.length ∨ l.any (fun k => decide (4 < k)) = true) := fun z => z.elim (fun z => by omega) fun z => by rw [hb] at z; cases z
    have h4 : ∀ k ∈ l, k ≤ 4 := fun k hk => by
      have := List.any_eq_false.mp hb k hk
      simpa using this
    have hD2 := hD.mono s2
    refine ⟨_, rfl, _, _, _, rfl, s2 _ _ hd, _, rfl, _, _, rfl, .inl (SqL.of (s2 _ _ hr1)), Z, own, d, kd, m, l.length, ?_, hD2, ok, fun hb2 => ?_, fun hb2 => ?_⟩
    · rw [vi_len]
    · have e : dPlay m l = .yes (l.foldl GM.tick m.game).stands { m with game := l.foldl GM.tick m.game } := by unfold dPlay; rw [if_neg hn1, if_neg (by rw [hb2]; exact Bool.false_ne_true)]
      rw [e] at k
      have few := need_no hb2
      have run := fold_ok ok.g h4 few
      refine ⟨_, rfl, r, rfl, ⟨_, SqL.of (s2 _ _ hr1)⟩, ?_⟩
      refine for_list (K := K) (a := r) (xs := vi l) (fun i σ H' => ∃ o, σ = [some (.ref d), some (.ref r), o] ∧ GameAt A H' own g cl pl ((l.take i).foldl GM.tick m.game) ∧ Fr [g, cl, pl] H2 H')
        ⟨none, rfl, hG.mono s2, Fr.refl _ _⟩ ?_ ?_ ?_
      · rintro i σ H3 _ ⟨o, rfl, hG3, f3⟩
        exact SqL.of (f3 _ _ (s2 _ _ hr1) fun z => hro (hG.sub _ z))
      · rintro i x σ H3 hx ⟨o, rfl, hG3, f3⟩
        obtain ⟨b, hb1, rfl⟩ := vi_of hx
        have hi : i < l.length := (List.getElem?_eq_some_iff.mp hb1).1
        obtain ⟨q1, q2, q3⟩ := run i (Nat.le_of_lt hi)
        obtain ⟨gx3, as3, g3, _⟩ := id hG3.ex
        have hd3 := f3 _ _ (s2 _ _ hd) (nd3 (s2 _ _ hd) (hG.mono s2))
        refine ⟨_, rfl, _, _, _, _, rfl, hd3, rfl, _, _, _, rfl, g3, _, rfl, own, g, cl, pl, _, b, rfl, hG3, q1, h4 b (List.mem_of_getElem? hb1), fun c => by have := few (q3 c); omega, fun H4 hG4 f4 => ?_⟩
        refine ⟨_, rfl, ?_, f3.trans f4⟩
        rw [take_snoc hb1, List.foldl_append]
        exact hG4
      · rintro σ H3 ⟨o, rfl, hG3, f3⟩
        rw [vi_len, List.take_length] at hG3
        have q1 := (run l.length (Nat.le_refl _)).1
        rw [List.take_length] at q1
        obtain ⟨gx3, as3, g3, _⟩ := id hG3.ex
        have fH : Fr [g, cl, pl] H H3 := (Fr.same s2).trans f3
        have hd3 := fH _ _ hd (nd3 hd hG)
        have hD3 := DeskAt.regame hD hd hG hk hK hc hz hG3 fH (fun b z => .inl z) (fun b z => z) old2
        refine ⟨_, rfl, _, _, _, _, rfl, hd3, rfl, _, _, _, rfl, g3, g, _, rfl, hG3.r, q1, fun p hp => ?_⟩
        exact k.fin hD3 (ok_game ok q1) (fun b z => .inl z) (fun b z => z) (fH.mono (wk3 hG hz)) (same_new hp) upd_same hp
    · have e : dPlay m l = .no (-5) := by unfold dPlay; rw [if_neg hn1, if_pos hb2]
      rw [e] at k
      exact Let.mono k s2
end
end SC
/-! SC19: a desk: its cave, its making. -/
namespace SC
open PySem PySem.Spec PyProof.Rows L2
theorem rows_flat (l : List Nat) : (rowsM l).flatten = l.filter fun b => !(b == 10) := by
  have step : ∀ (l : List Nat) (s : List (List Nat) × List Nat), (l.foldl rowsStep s).1.flatten ++ (l.foldl rowsStep s).2 = s.1.flatten ++ s.2 ++ l.filter fun b => !(b == 10) := by
    intro l
    induction l with
    | nil => intro s; simp
    | cons b l ih =>
      intro s
      rw [List.foldl_cons, ih]
      by_cases e : b = 10
      · subst e
        simp [rowsStep]
      · have e2 : (b == 10) = false := by simpa using e
        simp [rowsStep, e, List.filter_cons]
  have := step l ([], [])
  unfold rowsM
  have h2 : (rowsRun l).1.flatten ++ (rowsRun l).2 = l.filter fun b => !(b == 10) := by simpa [rowsRun] using this
  split
  · rename_i e
    rw [e, List.append_nil] at h2
    exact h2
  · rw [List.flatten_append, ← h2]; simp
theorem flat_len {n : Nat} : ∀ {rs : List (List Nat)}, (∀ r ∈ rs, r.length = n) → rs.flatten.length = n * rs.length
  | [], _ => rfl
  | r :: rs, h => by
    rw [List.flatten_cons, List.length_append, h r (List.mem_cons_self ..), flat_len fun x hx => h x (List.mem_cons_of_mem _ hx), List.length_cons, Nat.mul_succ, Nat.add_comm]
theorem fault_0 {l : List Nat} (h : faultM l = 0) : l.all okB = true ∧ (∀ r ∈ rowsM l, r.length = ((rowsM l).headD []).length) ∧ rowsM l ≠ [] ∧ (rowsM l).headD [] ≠ [] ∧ (rowsM l).length ≤ 14 ∧ ((rowsM l).headD []).length ≤ 20 ∧ l.count 64 = 1 := by
  unfold faultM at h
  dsimp only at h
  split at h
  · cases h
  · rename_i h1
    split at h
    · cases h
    · rename_i h2
      split at h
      · cases h
      · rename_i h3
        split at h
        · cases h
        · rename_i h4
          simp only [not_or] at h3
          have h1' : l.all okB = true := by simpa using h1
          refine ⟨h1', fun r hr => ?_, h3.1, h3.2.1, by omega, by omega, by omega⟩
          rw [not_and] at h2
          have := h2 h3.1
          have e : ((rowsM l).all fun r => r.length == ((rowsM l).headD []).length) = true := by simpa using this
          have := List.all_eq_true.mp e r hr
          simpa using this
theorem caveM_ok {l : List Nat} (h : faultM l = 0) : (caveM l).Ok := by
  obtain ⟨h1, h2, h3, h4, h5, h6, h7⟩ := fault_0 h
  refine ⟨⟨?_, h6⟩, ⟨?_, h5⟩, ?_, ?_⟩
  · exact List.length_pos_iff.mpr h4
  · exact List.length_pos_iff.mpr h3
  · show ((l.filter fun b => !(b == 10)).map idxM).length = _
    rw [List.length_map, ← rows_flat, flat_len h2]
    rfl
  · intro v hv
    obtain ⟨b, hb, rfl⟩ := List.mem_map.mp hv
    obtain ⟨m1, m2⟩ := List.mem_filter.mp hb
    have := List.all_eq_true.mp h1 b m1
    have e : (b == 10) = false := by simpa using m2
    unfold okB at this
    rw [e, Bool.or_false] at this
    have hg := (idx_get this).1
    have := (List.getElem?_eq_some_iff.mp hg).1
    have hl : sgnL.length = 13 := rfl
    omega
theorem cave0_ok : cave0M.Ok := ⟨⟨by decide, by decide⟩, ⟨by decide, by decide⟩, rfl, by decide⟩
section
variable {P : Program} {w : World} {K : PySem.W.Frag} {mg : Str → Option Value} {base : Heap} {A : Ad}
theorem i_Desk (T : Txt K mg A) : MakeOk P w K mg base CX0 4 A.desk "Desk" ["self"] (spDeskI A) := by
  refine T.d_Desk.ok (N := ["self"]) sc_Desk___init__ (fun vs H Q E h => (by first | (obtain ⟨rfl, _⟩ := h; rfl) | (obtain ⟨_, rfl, _⟩ := h; rfl) | (obtain ⟨_, _, rfl, _⟩ := h; rfl) | (obtain ⟨_, _, _, rfl, _⟩ := h; rfl) | (obtain ⟨_, _, _, _, rfl, _⟩ := h; rfl) | (obtain ⟨_, _, _, _, _, rfl, _⟩ := h; rfl) | (obtain ⟨_, _, _, _, _, _, rfl, _⟩ := h; rfl) | (obtain ⟨_, _, _, _, _, _, _, rfl, _⟩ := h; rfl) | (obtain ⟨_, _, _, _, _, _, _, _, rfl, _⟩ := h; rfl) | (obtain ⟨_, _, _, _, _, _, _, _, _, rfl, _⟩ := h; rfl) | (obtain ⟨_, _, _, _, _, _, _, _, _, _, rfl, _⟩ := h; rfl) | (obtain ⟨_, _, _, _, _, _, _, _, _, _, _, rfl, _⟩ := h; rfl) | (obtain ⟨_, _, _, _, _, _, _, _, _, _, _, _, rfl, _⟩ := h; rfl) | (obtain ⟨_, _, _, _, _, _, _, _, _, _, _, _, _, rfl, _⟩ := h; rfl) | (obtain ⟨rfl⟩ := h; rfl) | (obtain ⟨_, rfl⟩ := h; rfl) | (obtain ⟨_, _, rfl⟩ := h; rfl) | (obtain ⟨_, _, _, rfl⟩ := h; rfl) | (obtain ⟨_, _, _, _, rfl⟩ := h; rfl) | (obtain ⟨_, _, _, _, _, rfl⟩ := h; rfl) | (obtain ⟨_, _, _, _, _, _, rfl⟩ := h; rfl) | (obtain ⟨_, _, _, _, _, _, _, rfl⟩ := h; rfl) | (obtain ⟨_, _, _, _, _, _, _, _, rfl⟩ := h; rfl) | (obtain ⟨_, _, _, _, _, _, _, _, _, rfl⟩ := h; rfl) | (obtain ⟨_, _, _, _, _, _, _, _, _, _, rfl⟩ := h; rfl) | (obtain ⟨_, _, _, _, _, _, _, _, _, _, _, rfl⟩ := h; rfl) | (obtain ⟨_, _, _, _, _, _, _, _, _, _, _, _, rfl⟩ := h; rfl) | (obtain ⟨_, _, _, _, _, _, _, _, _, _, _, _, _, rfl⟩ := h; rfl))) (fun _ _ _ _ _ _ us hl => match us, hl with | [_], _ => rfl) (fun f cdv A0 outer s H vs Q E hr h => ⟨_, (pss_cons (ps_new (ks := []) T.cDesk T.nDesk_game (by decide +kernel) (by decide) (pv 0) (pe_mak (i_Game T) (hr.mono (by decide)) pass0 (pa_cons (pe_cal0 (g_first_cave T) (hr.mono (by decide)) pass0) (pa_cons (pe_gi T.i_FIRST_LENGTH) pa_nil))) rfl)
      (pss_one (ps_new (ks := ["game"]) T.cDesk T.nDesk_kept (by decide +kernel) (by decide) (pv 0) pe_dnewK rfl))), ?_⟩)
  obtain ⟨d, dx, rfl, hd, k⟩ := h
  refine ⟨rfl, fun H1 a cn => ?_⟩
  intro x gx hx hgx ne
  refine ⟨x, gx, a, 10, rfl, upd_same, fun H2 cl pl q1 q2 q3 f1 n1 n2 ncp => ⟨rfl, ?_⟩⟩
  obtain ⟨s2, hG, fx, fcl, fpl⟩ := newGame_at (own := [d]) (fun b z => by rw [List.mem_singleton.mp z]; exact ⟨_, hd⟩) cn hx hgx ne q1 q2 q3 f1 n1 n2 ncp
  refine ⟨_, rfl, _, _, _, rfl, s2 _ _ hd, rfl, fun kd hkd => ?_⟩
  replace hkd : upd H2 d (.ins A.desk dx (kz kDesk.dropLast [.ref x])) kd = none := hkd
  have ndx : d ≠ x := ne_of_none hd fx
  have ndcl : d ≠ cl := ne_of_none hd fcl
  have ndpl : d ≠ pl := ne_of_none hd fpl
  have hG2 := hG.other (b := d) (o := .ins A.desk dx (kz kDesk.dropLast [.ref x])) (by simp) (by simp [ndx, ndcl, ndpl])
  have d2 : upd H2 d (.ins A.desk dx (kz kDesk.dropLast [.ref x])) d = _ := upd_same
  have f2 : Fr [d] H (upd H2 d (.ins A.desk dx (kz kDesk.dropLast [.ref x]))) := (Fr.same s2).upd (by simp)
  have nkd : kd ≠ d := Ne.symm (ne_of_none d2 hkd)
  have fkd : H kd = none := by
    cases z : H kd with
    | none => rfl
    | some o => rw [f2 _ _ z (by simpa using nkd)] at hkd; cases hkd
  have s3 : Same (upd H2 d (.ins A.desk dx (kz kDesk.dropLast [.ref x]))) _ := same_new (o := .dK []) hkd
  refine ⟨_, rfl, _, _, _, rfl, s3 _ _ d2, rfl, ?_⟩
  have nk : ∀ b ∈ [x, cl, pl, d], kd ≠ b := fun b hb e => by
    have := hG2.live b (by simpa using hb)
    obtain ⟨o, q⟩ := this
    rw [← e] at q
    rw [q] at hkd; cases hkd
  have hG3 := (hG2.mono s3)
  have liveK : GameAt A (upd (upd H2 d (.ins A.desk dx (kz kDesk.dropLast [.ref x]))) kd (.dK [])) [x, cl, pl, d, kd] x cl pl (GM.new cave0M 10) := by
    obtain ⟨gx', as, r1, r2, r3, r4⟩ := hG2.ex
    refine ⟨⟨gx', as, s3 _ _ r1, s3 _ _ r2, s3 _ _ r3, r4.mono (hide_same (W := []) (Fr.same s3) (by simp) fun b hb => ?_)⟩, fun b hb => ?_, by simp, by simp, by simp, ncp⟩
    · by_cases e : b = kd
      · exact .inr (by rw [e]; exact hkd)
      · refine .inl ?_
        simp only [List.mem_cons, List.not_mem_nil, or_false] at hb ⊢
        rcases hb with z | z | z | z | z
        · exact .inl z
        · exact .inr (.inl z)
        · exact .inr (.inr (.inl z))
        · exact .inr (.inr (.inr z))
        · exact absurd z e
    · by_cases e : b = kd
      · exact ⟨_, by rw [e]; exact upd_same⟩
      · refine hG3.live b ?_
        simp only [List.mem_cons, List.not_mem_nil, or_false] at hb ⊢
        rcases hb with z | z | z | z | z
        · exact .inl z
        · exact .inr (.inl z)
        · exact .inr (.inr (.inl z))
        · exact .inr (.inr (.inr z))
        · exact absurd z e
  refine k _ [x, cl, pl, d, kd] kd ⟨⟨dx, x, cl, pl, [], upd_same, liveK.other (by simp) (by simp [ndx, ndcl, ndpl]), ?_, fun j => .inl ⟨rfl, rfl⟩, rfl, fun b _ => by simp⟩, mem_wk.mpr ⟨by simp, by simp⟩, mem_wk.mpr ⟨by simp, by simp⟩, fun z hz => by simp at hz⟩ (fun b hb => ?_) ?_
  · rw [upd_ne nkd]; exact upd_same
  · simp only [List.mem_cons, List.not_mem_nil, or_false] at hb
    rcases hb with z | z | z | z | z
    · exact .inr (z ▸ fx)
    · exact .inr (z ▸ fcl)
    · exact .inr (z ▸ fpl)
    · exact .inl z
    · exact .inr (z ▸ fkd)
  · exact (f2.trans (Fr.same s3)).upd (by simp)
theorem m_Desk_cave (T : Txt K mg A) : MethOk P w K mg base (L2.CX P w) 4 A.desk "cave" ["self", "row"] (spDR A K dCave) := by
  refine T.d_Desk_cave.okX (N := ["self", "row", "fault", "byte"]) sc_Desk_cave (fun vs H Q E h => (by first | (obtain ⟨rfl, _⟩ := h; rfl) | (obtain ⟨_, rfl, _⟩ := h; rfl) | (obtain ⟨_, _, rfl, _⟩ := h; rfl) | (obtain ⟨_, _, _, rfl, _⟩ := h; rfl) | (obtain ⟨_, _, _, _, rfl, _⟩ := h; rfl) | (obtain ⟨_, _, _, _, _, rfl, _⟩ := h; rfl) | (obtain ⟨_, _, _, _, _, _, rfl, _⟩ := h; rfl) | (obtain ⟨_, _, _, _, _, _, _, rfl, _⟩ := h; rfl) | (obtain ⟨_, _, _, _, _, _, _, _, rfl, _⟩ := h; rfl) | (obtain ⟨_, _, _, _, _, _, _, _, _, rfl, _⟩ := h; rfl) | (obtain ⟨_, _, _, _, _, _, _, _, _, _, rfl, _⟩ := h; rfl) | (obtain ⟨_, _, _, _, _, _, _, _, _, _, _, rfl, _⟩ := h; rfl) | (obtain ⟨_, _, _, _, _, _, _, _, _, _, _, _, rfl, _⟩ := h; rfl) | (obtain ⟨_, _, _, _, _, _, _, _, _, _, _, _, _, rfl, _⟩ := h; rfl) | (obtain ⟨rfl⟩ := h; rfl) | (obtain ⟨_, rfl⟩ := h; rfl) | (obtain ⟨_, _, rfl⟩ := h; rfl) | (obtain ⟨_, _, _, rfl⟩ := h; rfl) | (obtain ⟨_, _, _, _, rfl⟩ := h; rfl) | (obtain ⟨_, _, _, _, _, rfl⟩ := h; rfl) | (obtain ⟨_, _, _, _, _, _, rfl⟩ := h; rfl) | (obtain ⟨_, _, _, _, _, _, _, rfl⟩ := h; rfl) | (obtain ⟨_, _, _, _, _, _, _, _, rfl⟩ := h; rfl) | (obtain ⟨_, _, _, _, _, _, _, _, _, rfl⟩ := h; rfl) | (obtain ⟨_, _, _, _, _, _, _, _, _, _, rfl⟩ := h; rfl) | (obtain ⟨_, _, _, _, _, _, _, _, _, _, _, rfl⟩ := h; rfl) | (obtain ⟨_, _, _, _, _, _, _, _, _, _, _, _, rfl⟩ := h; rfl) | (obtain ⟨_, _, _, _, _, _, _, _, _, _, _, _, _, rfl⟩ := h; rfl))) (fun _ _ _ _ _ _ us hl => match us, hl with | [_, _], _ => rfl) (fun f cdv A0 outer s H vs Q E hr h => ⟨_, (pss_cons (ps_expr (pe_cal (g_refuse T) (hr.mono (by decide)) (passes_call (takes_of rfl rfl rfl rfl) (fun _ _ _ _ h => h)) (pa_cons (pe_or (pe_cmpR op_gt (pe_callB call_len_seq (by rfl) T.b_len PySem.boot_len (pa_cons (pv 1) pa_nil)) (pe_gi T.i_LONGEST) (nomark _)) (pe_one (pe_callB (cr_any rfl) (by rfl) T.b_any (by decide +kernel) (pa_cons (pe_lc (own := [("byte", 3)]) (g := gName 3) (by rfl) sc_Desk_cave.nd (pi_list (pv 1)) (blkOk_by (own := [("byte", 3)]) (N := ["self", "row", "fault", "byte"]) (sc := defScope (inClass (topS 59) 1)) (by decide +kernel)) (fun _ _ _ _ _ => pg_name (i := 3) sc_Desk_cave.nd rfl (Or.inl rfl)) (fun _ _ _ _ _ => pts_nil) (fun _ _ _ _ _ => (pe_cmpR op_gt (pv 3) (pe_gi T.i_MOST_BYTE) (nomark _)))) pa_nil)))) (pa_cons (pe_gi T.i_NOT_AS_TOLD) pa_nil))))
      (pss_cons (ps_set (i := 2) sc_Desk_cave.nd rfl (by first | exact Or.inl rfl | exact Or.inr rfl) (pe_cal (g_fault_of T) (hr.mono (by decide)) pass0 (pa_cons (pv 1) pa_nil)))
      (pss_cons (ps_expr (pe_cal (g_refuse T) (hr.mono (by decide)) (passes_call (takes_of rfl rfl rfl rfl) (fun _ _ _ _ h => h)) (pa_cons (pe_cmpR op_gt (pv 2) pe_int (nomark _)) (pa_cons (pe_op op_sub (pe_gi T.i_FAULT) (pv 2)) pa_nil))))
      (pss_cons (ps_put (ks := kDesk) (i := 0) T.cDesk T.nDesk_game (by decide +kernel) (by decide) (pv 0) (pe_mak (i_Game T) (hr.mono (by decide)) pass0 (pa_cons (pe_cal (g_cave_of T) (hr.mono (by decide)) pass0 (pa_cons (pv 1) pa_nil)) (pa_cons (pe_get (ks := kGame) (i := 3) T.cGame T.nGame_length (by decide +kernel) (pe_get (ks := kDesk) (i := 0) T.cDesk T.nDesk_game (by decide +kernel) (pv 0))) pa_nil))) rfl)
      (pss_one (ps_ret (pe_op op_cat (pe_mth0 (ks := kGame) T.cGame (by decide +kernel) (m_Game_stands T) (hr.mono (by decide)) pass0 (pe_get (ks := kDesk) (i := 0) T.cDesk T.nDesk_game (by decide +kernel) (pv 0))) (pe_lst (pa_cons (pe_get (ks := kCave) (i := 0) T.cCave T.nCave_wide (by decide +kernel) (pe_mth0 (ks := kGame) T.cGame (by decide +kernel) (m_Game_now T) (hr.mono (by decide)) pass0 (pe_get (ks := kDesk) (i := 0) T.cDesk T.nDesk_game (by decide +kernel) (pv 0)))) (pa_cons (pe_get (ks := kCave) (i := 1) T.cCave T.nCave_high (by decide +kernel) (pe_mth0 (ks := kGame) T.cGame (by decide +kernel) (m_Game_now T) (hr.mono (by decide)) pass0 (pe_get (ks := kDesk) (i := 0) T.cDesk T.nDesk_game (by decide +kernel) (pv 0)))) pa_nil)))))))))), ?_⟩)
  obtain ⟨Z, own, d, kd, m, r, l, rfl, hD, ok, hr1, hro, hl, k⟩ := h
  obtain ⟨dx, g, cl, pl, kvs, hd, hG, hk, hK, hc, hz⟩ := id hD.ex
  obtain ⟨gx, as0, g1, _⟩ := id hG.ex
  have bad : (300 < l.length ∨ l.any (fun b => decide (255 < b)) = true) → Let A H E (-1) := fun c => by
    have e : dCave m l = .no (-1) := if_pos c
    rw [e] at k
    exact k
  refine ⟨_, rfl, _, _, rfl, .inl (SqL.of hr1), _, _, rfl, rfl, _, rfl, if_d (fun c => ?_) fun c => ?_⟩
  · rw [vi_len] at c
    exact ⟨_, _, rfl, fun z => (by cases z), fun _ => bad (.inl (by omega))⟩
  · rw [vi_len] at c
    refine ⟨_, rfl, r, rfl, ⟨_, SqL.of hr1⟩, fun D hD0 => lc_list (K := K) (a := r) (xs := vi l) (fun i H' => H' = upd H D (.lst (vb ((l.take i).map fun b => decide (255 < b))))) rfl (fun i H' _ e => by rw [e]; exact SqL.of (same_new hD0 _ _ hr1)) ?_ ?_⟩
    · rintro i x H' hx rfl
      obtain ⟨b, hb, rfl⟩ := vi_of hx
      have hi : i < 400 := by have := (List.getElem?_eq_some_iff.mp hb).1; omega
      refine ⟨rfl, _, rfl, _, _, rfl, rfl, _, upd_same, small1000 (by rw [vb_len, List.length_map, List.length_take]; omega), ?_⟩
      rw [upd_upd, take_snoc hb, List.map_append, vb_app]
      have e4 : V.bl (decide ((255 : Int) < (b : Int))) = V.bl (decide (255 < b)) := congrArg V.bl (ilt 255 b)
      show upd H D (.lst (vb _ ++ [V.bl (decide ((255 : Int) < (b : Int)))])) = _
      rw [e4]; rfl
    rintro H2 rfl
    rw [vi_len, List.take_length]
    have s2 := same_new (o := .lst (vb (l.map fun b => decide (255 < b)))) hD0
    refine ⟨_, (l.map fun b => decide (255 < b)), rfl, SqL.of upd_same, ?_⟩
    rw [anyGt]
    generalize hU : upd H D (.lst (vb (l.map fun b => decide (255 < b)))) = H2 at s2
    clear hU
    refine ⟨_, _, rfl, fun hb => ?_, fun hb => Let.mono (bad (.inr hb)) s2⟩
    have hn1 : ¬ (300 < l.length ∨ l.any (fun k => decide (255 < k)) = true) := fun z => z.elim (fun z => by omega) fun z => by rw [hb] at z; cases z
    refine ⟨_, rfl, r, l, rfl, SqL.of (s2 _ _ hr1), hl, fun H3 s3' => ?_⟩
    have s3 : Same H H3 := fun b o q => s3' _ _ (s2 _ _ q)
    clear s3' s2
    refine ⟨_, rfl, _, _, rfl, rfl, _, rfl, _, _, rfl, rfl, _, _, rfl, fun hb2 => ?_, fun hb2 => ?_⟩
    · have hf : ¬ 0 < faultM l := by have := of_decide_eq_false hb2; omega
      have e : dCave m l = .yes ((GM.new (caveM l) m.game.length).stands ++ [(caveM l).w, (caveM l).h]) { m with game := GM.new (caveM l) m.game.length } := by unfold dCave; rw [if_neg hn1, if_neg hf]
      rw [e] at k
      have okc := caveM_ok (l := l) (by omega)
      have okg := new_ok okc ok.g.hl.1 ok.g.hl.2
      have hD3 := hD.mono s3
      refine ⟨_, rfl, r, l, rfl, SqL.of (s3 _ _ hr1), hl, by omega, fun H4 a cn => ?_⟩
      have sH4 : Same H H4 := fun b o q => cn.same _ _ (s3 _ _ q)
      refine ⟨_, rfl, _, _, _, _, rfl, sH4 _ _ hd, rfl, _, _, _, _, rfl, sH4 _ _ g1, rfl, fun x gx' hx hgx ne => ?_⟩
      refine ⟨x, gx', a, m.game.length, rfl, upd_same, fun H5 cl5 pl5 q1 q2 q3 f5 n1 n2 ncp => ⟨rfl, ?_⟩⟩
      obtain ⟨s5', hG5, fx, fcl, fpl⟩ := newGame_at hD3.live cn hx hgx ne q1 q2 q3 f5 n1 n2 ncp
      have s5 : Same H H5 := fun b o q => s5' _ _ (s3 _ _ q)
      have fx := new_none s3 fx
      have fcl := new_none s3 fcl
      have fpl := new_none s3 fpl
      refine ⟨_, rfl, _, _, _, rfl, s5 _ _ hd, (by show 0 < 2; decide), ?_⟩
      have hD6 := DeskAt.newgame hD hd hk hK hc s5 hG5 (sub3 fx fcl fpl) inc3 (none3 fx fcl fpl)
      have fr6 : Fr (wk Z own) H (upd H5 d (.ins A.desk dx (kz kDesk [.ref x, .ref kd]))) := (Fr.same s5).upd hD.wd
      have hG6 := hG5.other (o := .ins A.desk dx (kz kDesk [.ref x, .ref kd])) (inc3 _ hD.od) (nd3 (s5 _ _ hd) hG5)
      obtain ⟨gx6, as6, g6, _⟩ := id hG6.ex
      have hd6 : upd H5 d (.ins A.desk dx (kz kDesk [.ref x, .ref kd])) d = _ := upd_same
      refine ⟨_, rfl, _, _, _, _, rfl, hd6, rfl, _, _, _, rfl, g6, x, _, rfl, hG6.r, okg, fun p hp => ?_⟩
      have hR7 := hG6.r.mono (same_new (o := .lst (vi (GM.new (caveM l) m.game.length).stands)) hp)
      refine ⟨_, rfl, _, _, _, _, rfl, same_new hp _ _ hd6, rfl, _, _, _, rfl, same_new hp _ _ g6, x, _, rfl, hR7, okg, fun as' a' _ _ ⟨da, ca, a1, a2⟩ => ⟨_, _, _, _, rfl, a1, rfl, ?_⟩⟩
      refine ⟨_, rfl, _, _, _, _, rfl, same_new hp _ _ hd6, rfl, _, _, _, rfl, same_new hp _ _ g6, x, _, rfl, hR7, okg, fun as' a' _ _ ⟨da, ca, a1, a2⟩ => ⟨_, _, _, _, rfl, a1, rfl, (by show 2 ≤ sizeLine; decide), fun q hq => ?_⟩⟩
      refine ⟨p, q, _, _, rfl, rfl, same_new hq _ _ upd_same, upd_same, (by show 6 ≤ sizeLine; decide), fun t ht => ?_⟩
      exact k.fin3 hD6 (ok_game ok okg) (sub3 fx fcl fpl) inc3 fr6 hp hq ht
    · have hf : 0 < faultM l := by have := of_decide_eq_true hb2; omega
      have e : dCave m l = .no (-10 - (faultM l : Int)) := by unfold dCave; rw [if_neg hn1, if_pos hf]
      rw [e] at k
      exact Let.mono k s3
end
end SC
/-! SC20: a desk's calls, told apart. -/
namespace SC
open PySem PySem.Spec PyProof.Rows L2
def spOne (A : Ad) : Sp := fun vs H Q E => ∃ (Z own : List Addr) (d kd : Addr) (m : DeskM) (call n : Nat), vs = [.ref d, .int call, .int n] ∧ DeskAt A Z H own d kd m ∧ m.Ok ∧ DPost A Z H own d kd Q E (dOne m call n)
/-- which numbers a call needs -/
def needs (call : Nat) (nums : List Nat) : Prop := (call = 7 → 2 ≤ nums.length) ∧ (call ≠ 0 → call ≠ 6 → call ≠ 7 → call ≠ 10 → call ≠ 11 → call ≠ 12 → 1 ≤ nums.length)
def spDone (A : Ad) : Sp := fun vs H Q E => ∃ (Z own : List Addr) (d kd : Addr) (m : DeskM) (call : Nat) (a r : Addr) (nums row : List Nat), vs = [.ref d, .int call, .ref a, .ref r] ∧ DeskAt A Z H own d kd m ∧ m.Ok ∧ H a = some (.lst (vi nums)) ∧ H r = some (.lst (vi row)) ∧ r ∉ own ∧ row.length ≤ 400 ∧ needs call nums ∧
  DPost A Z H own d kd Q E (dDone m call nums row)
theorem num_get {l : List Nat} {i : Nat} (h : i < l.length) : (vi l)[i]? = some (.int (l.getD i 0 : Nat)) := by
  refine vi_get ?_
  rw [List.getD_eq_getElem?_getD, List.getElem?_eq_getElem h]; rfl
section
variable {P : Program} {w : World} {K : PySem.W.Frag} {mg : Str → Option Value} {base : Heap} {A : Ad}
theorem sc_Desk_of_one : FnScope ["self", "call", "number"] ["self", "call", "number"] (defScope (inClass (topS 59) 13)) := ⟨rfl, rfl, rfl, by decide +kernel, rfl, by decide +kernel, by decide +kernel⟩
theorem sc_Desk_done : FnScope ["self", "call", "numbers", "row", "sort"] ["self", "call", "numbers", "row"] (defScope (inClass (topS 59) 14)) := ⟨rfl, rfl, rfl, by decide +kernel, rfl, by decide +kernel, by decide +kernel⟩
theorem m_Desk_of_one (T : Txt K mg A) : MethOk P w K mg base (L2.CX P w) 11 A.desk "of_one" ["self", "call", "number"] (spOne A) := by
  refine T.d_Desk_of_one.okX (N := ["self", "call", "number"]) sc_Desk_of_one (fun vs H Q E h => (by first | (obtain ⟨rfl, _⟩ := h; rfl) | (obtain ⟨_, rfl, _⟩ := h; rfl) | (obtain ⟨_, _, rfl, _⟩ := h; rfl) | (obtain ⟨_, _, _, rfl, _⟩ := h; rfl) | (obtain ⟨_, _, _, _, rfl, _⟩ := h; rfl) | (obtain ⟨_, _, _, _, _, rfl, _⟩ := h; rfl) | (obtain ⟨_, _, _, _, _, _, rfl, _⟩ := h; rfl) | (obtain ⟨_, _, _, _, _, _, _, rfl, _⟩ := h; rfl) | (obtain ⟨_, _, _, _, _, _, _, _, rfl, _⟩ := h; rfl) | (obtain ⟨_, _, _, _, _, _, _, _, _, rfl, _⟩ := h; rfl) | (obtain ⟨_, _, _, _, _, _, _, _, _, _, rfl, _⟩ := h; rfl) | (obtain ⟨_, _, _, _, _, _, _, _, _, _, _, rfl, _⟩ := h; rfl) | (obtain ⟨_, _, _, _, _, _, _, _, _, _, _, _, rfl, _⟩ := h; rfl) | (obtain ⟨_, _, _, _, _, _, _, _, _, _, _, _, _, rfl, _⟩ := h; rfl) | (obtain ⟨rfl⟩ := h; rfl) | (obtain ⟨_, rfl⟩ := h; rfl) | (obtain ⟨_, _, rfl⟩ := h; rfl) | (obtain ⟨_, _, _, rfl⟩ := h; rfl) | (obtain ⟨_, _, _, _, rfl⟩ := h; rfl) | (obtain ⟨_, _, _, _, _, rfl⟩ := h; rfl) | (obtain ⟨_, _, _, _, _, _, rfl⟩ := h; rfl) | (obtain ⟨_, _, _, _, _, _, _, rfl⟩ := h; rfl) | (obtain ⟨_, _, _, _, _, _, _, _, rfl⟩ := h; rfl) | (obtain ⟨_, _, _, _, _, _, _, _, _, rfl⟩ := h; rfl) | (obtain ⟨_, _, _, _, _, _, _, _, _, _, rfl⟩ := h; rfl) | (obtain ⟨_, _, _, _, _, _, _, _, _, _, _, rfl⟩ := h; rfl) | (obtain ⟨_, _, _, _, _, _, _, _, _, _, _, _, rfl⟩ := h; rfl) | (obtain ⟨_, _, _, _, _, _, _, _, _, _, _, _, _, rfl⟩ := h; rfl))) (fun _ _ _ _ _ _ us hl => match us, hl with | [_, _, _], _ => rfl) (fun f cdv A0 outer s H vs Q E hr h => ⟨_, (pss_cons (ps_if (pt_cmpR op_eq (pv 1) pe_int (nomark _)) (pss_one (ps_ret (pe_mth (ks := kDesk) T.cDesk (by decide +kernel) (m_Desk_hold T) (hr.mono (by decide)) (passes_call (takes_of rfl rfl rfl rfl) (fun _ _ _ _ h => h)) (pv 0) (pa_cons (pv 2) pa_nil)))) pss_nil)
      (pss_cons (ps_if (pt_cmpR op_eq (pv 1) pe_int (nomark _)) (pss_one (ps_ret (pe_mth (ks := kDesk) T.cDesk (by decide +kernel) (m_Desk_frame T) (hr.mono (by decide)) (passes_call (takes_of rfl rfl rfl rfl) (fun _ _ _ _ h => h)) (pv 0) (pa_cons (pv 2) pa_nil)))) pss_nil)
      (pss_cons (ps_if (pt_cmpR op_eq (pv 1) pe_int (nomark _)) (pss_one (ps_ret (pe_mth (ks := kDesk) T.cDesk (by decide +kernel) (m_Desk_speed T) (hr.mono (by decide)) (passes_call (takes_of rfl rfl rfl rfl) (fun _ _ _ _ h => h)) (pv 0) (pa_cons (pv 2) pa_nil)))) pss_nil)
      (pss_cons (ps_if (pt_cmpR op_eq (pv 1) pe_int (nomark _)) (pss_one (ps_ret (pe_mth (ks := kDesk) T.cDesk (by decide +kernel) (m_Desk_save T) (hr.mono (by decide)) (passes_call (takes_of rfl rfl rfl rfl) (fun _ _ _ _ h => h)) (pv 0) (pa_cons (pv 2) pa_nil)))) pss_nil)
      (pss_cons (ps_if (pt_cmpR op_eq (pv 1) pe_int (nomark _)) (pss_one (ps_ret (pe_mth (ks := kDesk) T.cDesk (by decide +kernel) (m_Desk_load T) (hr.mono (by decide)) (passes_call (takes_of rfl rfl rfl rfl) (fun _ _ _ _ h => h)) (pv 0) (pa_cons (pv 2) pa_nil)))) pss_nil)
      (pss_cons (ps_if (pt_cmpR op_eq (pv 1) pe_int (nomark _)) (pss_one (ps_ret (pe_mth (ks := kDesk) T.cDesk (by decide +kernel) (m_Desk_seen T) (hr.mono (by decide)) (passes_call (takes_of rfl rfl rfl rfl) (fun _ _ _ _ h => h)) (pv 0) (pa_cons (pv 2) pa_nil)))) pss_nil)
      (pss_cons (ps_if (pt_cmpR op_eq (pv 1) pe_int (nomark _)) (pss_one (ps_ret (pe_mth (ks := kDesk) T.cDesk (by decide +kernel) (m_Desk_back T) (hr.mono (by decide)) (passes_call (takes_of rfl rfl rfl rfl) (fun _ _ _ _ h => h)) (pv 0) (pa_cons (pv 2) pa_nil)))) pss_nil)
      (pss_one (ps_ret (pe_mth (ks := kDesk) T.cDesk (by decide +kernel) (m_Desk_differ T) (hr.mono (by decide)) (passes_call (takes_of rfl rfl rfl rfl) (fun _ _ _ _ h => h)) (pv 0) (pa_cons (pv 2) pa_nil))))))))))), ?_⟩)
  obtain ⟨Z, own, d, kd, m, call, n, rfl, hD, ok, k⟩ := h
  obtain ⟨dx, g, cl, pl, kvs, hd, _⟩ := id hD.ex
  unfold dOne at k
  refine ⟨_, rfl, rfl, _, rfl, if_e (m := 1) (fun c => ?_) fun c => ?_⟩
  · rw [if_pos c] at k
    exact ⟨_, rfl, _, _, _, rfl, hd, _, rfl, Z, own, d, kd, m, n, rfl, hD, ok, k⟩
  rw [if_neg c] at k
  refine ⟨_, rfl, rfl, _, rfl, if_e (m := 2) (fun c => ?_) fun c => ?_⟩
  · rw [if_pos c] at k
    exact ⟨_, rfl, _, _, _, rfl, hd, _, rfl, Z, own, d, kd, m, n, rfl, hD, ok, k⟩
  rw [if_neg c] at k
  refine ⟨_, rfl, rfl, _, rfl, if_e (m := 3) (fun c => ?_) fun c => ?_⟩
  · rw [if_pos c] at k
    exact ⟨_, rfl, _, _, _, rfl, hd, _, rfl, Z, own, d, kd, m, n, rfl, hD, ok, k⟩
  rw [if_neg c] at k
  refine ⟨_, rfl, rfl, _, rfl, if_e (m := 4) (fun c => ?_) fun c => ?_⟩
  · rw [if_pos c] at k
    exact ⟨_, rfl, _, _, _, rfl, hd, _, rfl, Z, own, d, kd, m, n, rfl, hD, ok, k⟩
  rw [if_neg c] at k
  refine ⟨_, rfl, rfl, _, rfl, if_e (m := 5) (fun c => ?_) fun c => ?_⟩
  · rw [if_pos c] at k
    exact ⟨_, rfl, _, _, _, rfl, hd, _, rfl, Z, own, d, kd, m, n, rfl, hD, ok, k⟩
  rw [if_neg c] at k
  refine ⟨_, rfl, rfl, _, rfl, if_e (m := 8) (fun c => ?_) fun c => ?_⟩
  · rw [if_pos c] at k
    exact ⟨_, rfl, _, _, _, rfl, hd, _, rfl, Z, own, d, kd, m, n, rfl, hD, ok, k⟩
  rw [if_neg c] at k
  refine ⟨_, rfl, rfl, _, rfl, if_e (m := 9) (fun c => ?_) fun c => ?_⟩
  · rw [if_pos c] at k
    exact ⟨_, rfl, _, _, _, rfl, hd, _, rfl, Z, own, d, kd, m, n, rfl, hD, ok, k⟩
  rw [if_neg c] at k
  exact ⟨_, rfl, _, _, _, rfl, hd, _, rfl, Z, own, d, kd, m, n, rfl, hD, ok, k⟩
theorem m_Desk_done (T : Txt K mg A) : MethOk P w K mg base (L2.CX P w) 12 A.desk "done" ["self", "call", "numbers", "row"] (spDone A) := by
  refine T.d_Desk_done.okX (N := ["self", "call", "numbers", "row", "sort"]) sc_Desk_done (fun vs H Q E h => (by first | (obtain ⟨rfl, _⟩ := h; rfl) | (obtain ⟨_, rfl, _⟩ := h; rfl) | (obtain ⟨_, _, rfl, _⟩ := h; rfl) | (obtain ⟨_, _, _, rfl, _⟩ := h; rfl) | (obtain ⟨_, _, _, _, rfl, _⟩ := h; rfl) | (obtain ⟨_, _, _, _, _, rfl, _⟩ := h; rfl) | (obtain ⟨_, _, _, _, _, _, rfl, _⟩ := h; rfl) | (obtain ⟨_, _, _, _, _, _, _, rfl, _⟩ := h; rfl) | (obtain ⟨_, _, _, _, _, _, _, _, rfl, _⟩ := h; rfl) | (obtain ⟨_, _, _, _, _, _, _, _, _, rfl, _⟩ := h; rfl) | (obtain ⟨_, _, _, _, _, _, _, _, _, _, rfl, _⟩ := h; rfl) | (obtain ⟨_, _, _, _, _, _, _, _, _, _, _, rfl, _⟩ := h; rfl) | (obtain ⟨_, _, _, _, _, _, _, _, _, _, _, _, rfl, _⟩ := h; rfl) | (obtain ⟨_, _, _, _, _, _, _, _, _, _, _, _, _, rfl, _⟩ := h; rfl) | (obtain ⟨rfl⟩ := h; rfl) | (obtain ⟨_, rfl⟩ := h; rfl) | (obtain ⟨_, _, rfl⟩ := h; rfl) | (obtain ⟨_, _, _, rfl⟩ := h; rfl) | (obtain ⟨_, _, _, _, rfl⟩ := h; rfl) | (obtain ⟨_, _, _, _, _, rfl⟩ := h; rfl) | (obtain ⟨_, _, _, _, _, _, rfl⟩ := h; rfl) | (obtain ⟨_, _, _, _, _, _, _, rfl⟩ := h; rfl) | (obtain ⟨_, _, _, _, _, _, _, _, rfl⟩ := h; rfl) | (obtain ⟨_, _, _, _, _, _, _, _, _, rfl⟩ := h; rfl) | (obtain ⟨_, _, _, _, _, _, _, _, _, _, rfl⟩ := h; rfl) | (obtain ⟨_, _, _, _, _, _, _, _, _, _, _, rfl⟩ := h; rfl) | (obtain ⟨_, _, _, _, _, _, _, _, _, _, _, _, rfl⟩ := h; rfl) | (obtain ⟨_, _, _, _, _, _, _, _, _, _, _, _, _, rfl⟩ := h; rfl))) (fun _ _ _ _ _ _ us hl => match us, hl with | [_, _, _, _], _ => rfl) (fun f cdv A0 outer s H vs Q E hr h => ⟨_, (pss_cons (ps_if (pt_cmpR op_eq (pv 1) pe_int (nomark _)) (pss_one (ps_ret (pe_mth (ks := kDesk) T.cDesk (by decide +kernel) (m_Desk_cave T) (hr.mono (by decide)) (passes_call (takes_of rfl rfl rfl rfl) (fun _ _ _ _ h => h)) (pv 0) (pa_cons (pv 3) pa_nil)))) pss_nil)
      (pss_cons (ps_if (pt_cmpR op_eq (pv 1) pe_int (nomark _)) (pss_one (ps_ret (pe_cal (g_counted T) (hr.mono (by decide)) pass0 (pa_cons (pe_mth0 (ks := kCave) T.cCave (by decide +kernel) (m_Cave_written T) (hr.mono (by decide)) pass0 (pe_mth0 (ks := kGame) T.cGame (by decide +kernel) (m_Game_now T) (hr.mono (by decide)) pass0 (pe_get (ks := kDesk) (i := 0) T.cDesk T.nDesk_game (by decide +kernel) (pv 0)))) pa_nil)))) pss_nil)
      (pss_cons (ps_if (pt_cmpR op_eq (pv 1) pe_int (nomark _)) (pss_one (ps_ret (pe_mth (ks := kDesk) T.cDesk (by decide +kernel) (m_Desk_place T) (hr.mono (by decide)) (passes_call (takes_of rfl rfl rfl rfl) (fun _ _ _ _ h => h)) (pv 0) (pa_cons (pe_ix ix_list (pv 2) pe_int (fun _ _ => rfl)) (pa_cons (pe_ix ix_list (pv 2) pe_int (fun _ _ => rfl)) pa_nil))))) pss_nil)
      (pss_cons (ps_if (pt_cmpR op_eq (pv 1) pe_int (nomark _)) (pss_one (ps_ret (pe_cal (g_counted T) (hr.mono (by decide)) pass0 (pa_cons (pe_callTy call_list_of (by rfl) T.b_list (by decide +kernel) (pa_cons (pe_get (ks := kGame) (i := 1) T.cGame T.nGame_pressed (by decide +kernel) (pe_get (ks := kDesk) (i := 0) T.cDesk T.nDesk_game (by decide +kernel) (pv 0))) pa_nil)) pa_nil)))) pss_nil)
      (pss_cons (ps_if (pt_cmpR op_eq (pv 1) pe_int (nomark _)) (pss_one (ps_ret (pe_mth (ks := kDesk) T.cDesk (by decide +kernel) (m_Desk_play T) (hr.mono (by decide)) (passes_call (takes_of rfl rfl rfl rfl) (fun _ _ _ _ h => h)) (pv 0) (pa_cons (pv 3) pa_nil)))) pss_nil)
      (pss_cons (ps_if (pt_cmpR op_eq (pv 1) pe_int (nomark _)) (pss_one (ps_ret (pe_lc (own := [("sort", 4)]) (g := gName 4) (by rfl) sc_Desk_done.nd (pi_range1 rfl T.b_range (pa_cons (pe_gi T.i_SORTS) pa_nil)) (blkOk_by (own := [("sort", 4)]) (N := ["self", "call", "numbers", "row", "sort"]) (sc := defScope (inClass (topS 59) 14)) (by decide +kernel)) (fun _ _ _ _ _ => pg_name (i := 4) sc_Desk_done.nd rfl (Or.inl rfl)) (fun _ _ _ _ _ => pts_nil) (fun _ _ _ _ _ => (pe_bmK (K := K) rfl (pe_bm PySem.F.plainAttrs_list PySem.F.slot_list_count PySem.F.type_list_count (mt_lcountK (K := K)) (pe_get (ks := kCave) (i := 2) T.cCave T.nCave_cells (by decide +kernel) (pe_mth0 (ks := kGame) T.cGame (by decide +kernel) (m_Game_now T) (hr.mono (by decide)) pass0 (pe_get (ks := kDesk) (i := 0) T.cDesk T.nDesk_game (by decide +kernel) (pv 0)))) (pa_cons (pv 4) pa_nil))))))) pss_nil)
      (pss_one (ps_ret (pe_mth (ks := kDesk) T.cDesk (by decide +kernel) (m_Desk_of_one T) (hr.mono (by decide)) (passes_call (takes_of rfl rfl rfl rfl) (fun _ _ _ _ h => h)) (pv 0) (pa_cons (pv 1) (pa_cons (pe_ix ix_list (pv 2) pe_int (fun _ _ => rfl)) pa_nil))))))))))), ?_⟩)
  obtain ⟨Z, own, d, kd, m, call, a, r, nums, row, rfl, hD, ok, ha, hr1, hro, hl, hn, k⟩ := h
  obtain ⟨dx, g, cl, pl, kvs, hd, hG, hk, hK, hc, hz⟩ := id hD.ex
  obtain ⟨gx, as, g1, g2, g3, hC⟩ := id hG.ex
  have okc := cave_ok ok.g (Nat.le_refl _)
  unfold dDone at k
  refine ⟨_, rfl, rfl, _, rfl, if_e (m := 0) (fun c => ?_) fun c0 => ?_⟩
  · rw [if_pos c] at k
    exact ⟨_, rfl, _, _, _, rfl, hd, _, rfl, Z, own, d, kd, m, r, row, rfl, hD, ok, hr1, hro, hl, k⟩
  rw [if_neg c0] at k
  refine ⟨_, rfl, rfl, _, rfl, if_e (m := 6) (fun c => ?_) fun c6 => ?_⟩
  · rw [if_pos c] at k
    refine ⟨_, rfl, _, _, _, _, rfl, hd, rfl, _, _, _, rfl, g1, g, m.game, rfl, hG.r, ok.g, fun as' a' _ _ ⟨da, ca, a1, a2⟩ => ?_⟩
    refine ⟨_, _, _, rfl, a1, a', m.game.now, rfl, ⟨da, ca, a1, a2⟩, okc, fun H1 q s1 hq hq1 => ?_⟩
    have ht := text_le okc
    refine ⟨q, _, rfl, hq1, by have : m.game.now.text.length ≤ 294 := ht; omega, fun H2 p s2 hp hp1 => ?_⟩
    exact k.same hD ok (fun b o z => s2 _ _ (s1 _ _ z)) hp1 (new_none s1 hp)
  rw [if_neg c6] at k
  refine ⟨_, rfl, rfl, _, rfl, if_e (m := 7) (fun c => ?_) fun c7 => ?_⟩
  · rw [if_pos c] at k
    have h2 := hn.1 c
    refine ⟨_, rfl, _, _, _, rfl, hd, _, rfl, _, _, _, _, rfl, rfl, SqL.of ha, at_ix (j := 0) rfl (num_get (by omega)), _, rfl, _, _, _, _, rfl, rfl, SqL.of ha, at_ix (j := 1) rfl (num_get (by omega)), Z, own, d, kd, m, _, _, rfl, hD, ok, k⟩
  rw [if_neg c7] at k
  refine ⟨_, rfl, rfl, _, rfl, if_e (m := 10) (fun c => ?_) fun c10 => ?_⟩
  · rw [if_pos c] at k
    refine ⟨_, rfl, _, _, _, _, rfl, hd, rfl, _, _, _, _, rfl, g1, rfl, _, _, rfl, .inl (SqL.of g3), fun q hq => ?_⟩
    have s1 := same_new (o := .lst (vi m.game.keys)) hq
    refine ⟨q, _, rfl, upd_same, by have := ok.g.lk; omega, fun H2 p s2 hp hp1 => ?_⟩
    exact k.same hD ok (fun b o z => s2 _ _ (s1 _ _ z)) hp1 (new_none s1 hp)
  rw [if_neg c10] at k
  refine ⟨_, rfl, rfl, _, rfl, if_e (m := 11) (fun c => ?_) fun c11 => ?_⟩
  · rw [if_pos c] at k
    exact ⟨_, rfl, _, _, _, rfl, hd, _, rfl, Z, own, d, kd, m, r, row, rfl, hD, ok, hr1, hro, hl, k⟩
  rw [if_neg c11] at k
  refine ⟨_, rfl, rfl, _, rfl, if_e (m := 12) (fun c => ?_) fun c12 => ?_⟩
  · rw [if_pos c] at k
    refine ⟨_, rfl, by decide, by decide, fun D hD0 => lc_range (n := 13) (fun i H' => H' = upd H D (.lst (vi ((List.range i).map fun v => m.game.now.cells.count v)))) rfl ?_ ?_⟩
    · rintro i H' hi rfl
      have s1 := same_new (o := .lst (vi ((List.range i).map fun v => m.game.now.cells.count v))) hD0
      refine ⟨rfl, _, rfl, _, _, _, _, rfl, s1 _ _ hd, rfl, _, _, _, rfl, s1 _ _ g1, g, m.game, rfl, hG.r.mono s1, ok.g, fun as' a' _ _ ⟨da, ca, a1, a2⟩ => ⟨_, _, _, _, rfl, a1, rfl, ?_⟩⟩
      replace a2 : upd H D (.lst (vi ((List.range i).map fun v => m.game.now.cells.count v))) ca = some (.lst ((m.game.now.cells.map fun n : Nat => (n : Int)).map V.int)) := by rw [← vi_ints]; exact a2
      refine ⟨.inl ⟨rfl, _, SqL.of a2⟩, _, rfl, _, _, _, rfl, rfl, SqL.of a2, _, upd_same, small1000 (by rw [vi_len, List.length_map, List.length_range]; omega), ?_⟩
      rw [upd_upd, List.range_succ, List.map_append, vi_app]
      have e1 : (0 : Int) + (i : Int) = ((i : Nat) : Int) := by omega
      rw [e1, count_ints]
      rfl
    · rintro H2 rfl
      exact k.same hD ok (same_new hD0) upd_same hD0
  rw [if_neg c12] at k
  have h1 := hn.2 c0 c6 c7 c10 c11 c12
  exact ⟨_, rfl, _, _, _, rfl, hd, _, rfl, _, rfl, _, _, _, _, rfl, rfl, SqL.of ha, at_ix (j := 0) rfl (num_get (by omega)), Z, own, d, kd, m, call, _, rfl, hD, ok, k⟩
end
/-! ### the answer -/
def vz (l : List Int) : List V := l.map V.int
def dAns (o : Out) (m : DeskM) : List Int × DeskM := match o with
  | .no n => ([n], m)
  | .yes l m' => (l.map fun n : Nat => (n : Int), m')
theorem pe_mthS {X : Cx} {CX : CXT} {k : Nat} {C : Addr} {ks ps : List Str} {m : Str} {sp : Sp} {E : L2.St → XK} {o e : Expr} {es : List Expr} {to : TE} {t : TA} {pos apos : Pos} {pl : Sem Bool} (c : Cls X.K C) (hn : noK ks m = true) (G : MethOk X.prog X.w X.K X.mg X.base CX k C m ps sp) (hr : Room k X.A) (hx : ∀ σ, PassesAt CX X σ (E σ)) (ho : PE X o to) (ha : PA X (e :: es) t)
    (hst : starEach (e :: es) X.env = (false, eval e X.env) :: starEach es X.env := by rfl) (hpl : (backTo pos (starEach es X.env)).any (·.1) = false := by rfl)
    (ht : eval (.Call (.Attribute o m apos) (e :: es) [] pos) X.env = (do
      let ov ← eval o X.env
      standAt apos.atName
      let (f, first) ← holding [ov] (getMethod ov m pl)
      callWith pos f first (backTo pos (starEach (e :: es) X.env)) (backToKw pos (keywordEach [] X.env))) := by rfl) :
    PE X (.Call (.Attribute o m apos) (e :: es) [] pos) (tMthS C ks sp E to t) := by
  obtain ⟨f, fd, hm, F, hb⟩ := G.ex
  refine ⟨fun pins s σ H Q I h => ?_⟩
  refine PySem.W.methodCall_KW (pl := pl) (thn (ho.run pins s σ H _ I h) fun u s1 ⟨x, H1, I1, rx, a, dx, vs, ex, ea, q⟩ => ?_) ht
  subst ex
  obtain rfl : u = Value.ref a := rx
  refine getmeth_ok I1 ea c hm (kz_no hn) ?_
  refine PySem.W.callWith_K (first := [.ref a]) (h₀ := X.base) I.ok.mod.kin hm.kp (thn (ha.run pos pins s1 σ H1 _ I1 q) fun us s2 ⟨ws, H2, I2, r, q2⟩ => ⟨I2.kIn, ?_⟩) hst hpl
  exact run_fnS (us := .ref a :: us) (vs := .ref a :: ws) F hr hb (hx σ) I2 (.cons rfl r) q2
def spAnswer (A : Ad) : Sp := fun vs H Q E => ∃ (Z own : List Addr) (d kd : Addr) (m : DeskM) (call : Nat) (a r : Addr) (nums row : List Nat), vs = [.ref d, .int call, .ref a, .ref r] ∧ DeskAt A Z H own d kd m ∧ m.Ok ∧ H a = some (.lst (vi nums)) ∧ H r = some (.lst (vi row)) ∧ r ∉ own ∧ row.length ≤ 400 ∧ needs call nums ∧
  ∀ H' own' p, DeskAt A Z H' own' d kd (dAns (dDone m call nums row) m).2 → (dAns (dDone m call nums row) m).2.Ok → Sub own H own' → Fr (wk Z own) H H' → H' p = some (.lst (vz (dAns (dDone m call nums row) m).1)) → p ∉ own' → H p = none → Q (.ref p) H'
section
variable {P : Program} {w : World} {K : PySem.W.Frag} {mg : Str → Option Value} {base : Heap} {A : Ad}
theorem sc_Desk_answer : FnScope ["self", "call", "numbers", "row", "e"] ["self", "call", "numbers", "row"] (defScope (inClass (topS 59) 15)) := ⟨rfl, rfl, rfl, by decide +kernel, rfl, by decide +kernel, by decide +kernel⟩
theorem m_Desk_answer (T : Txt K mg A) : MethOk P w K mg base CX0 13 A.desk "answer" ["self", "call", "numbers", "row"] (spAnswer A) := by
  refine T.d_Desk_answer.ok (N := ["self", "call", "numbers", "row", "e"]) sc_Desk_answer (fun vs H Q E h => (by first | (obtain ⟨rfl, _⟩ := h; rfl) | (obtain ⟨_, rfl, _⟩ := h; rfl) | (obtain ⟨_, _, rfl, _⟩ := h; rfl) | (obtain ⟨_, _, _, rfl, _⟩ := h; rfl) | (obtain ⟨_, _, _, _, rfl, _⟩ := h; rfl) | (obtain ⟨_, _, _, _, _, rfl, _⟩ := h; rfl) | (obtain ⟨_, _, _, _, _, _, rfl, _⟩ := h; rfl) | (obtain ⟨_, _, _, _, _, _, _, rfl, _⟩ := h; rfl) | (obtain ⟨_, _, _, _, _, _, _, _, rfl, _⟩ := h; rfl) | (obtain ⟨_, _, _, _, _, _, _, _, _, rfl, _⟩ := h; rfl) | (obtain ⟨_, _, _, _, _, _, _, _, _, _, rfl, _⟩ := h; rfl) | (obtain ⟨_, _, _, _, _, _, _, _, _, _, _, rfl, _⟩ := h; rfl) | (obtain ⟨_, _, _, _, _, _, _, _, _, _, _, _, rfl, _⟩ := h; rfl) | (obtain ⟨_, _, _, _, _, _, _, _, _, _, _, _, _, rfl, _⟩ := h; rfl) | (obtain ⟨rfl⟩ := h; rfl) | (obtain ⟨_, rfl⟩ := h; rfl) | (obtain ⟨_, _, rfl⟩ := h; rfl) | (obtain ⟨_, _, _, rfl⟩ := h; rfl) | (obtain ⟨_, _, _, _, rfl⟩ := h; rfl) | (obtain ⟨_, _, _, _, _, rfl⟩ := h; rfl) | (obtain ⟨_, _, _, _, _, _, rfl⟩ := h; rfl) | (obtain ⟨_, _, _, _, _, _, _, rfl⟩ := h; rfl) | (obtain ⟨_, _, _, _, _, _, _, _, rfl⟩ := h; rfl) | (obtain ⟨_, _, _, _, _, _, _, _, _, rfl⟩ := h; rfl) | (obtain ⟨_, _, _, _, _, _, _, _, _, _, rfl⟩ := h; rfl) | (obtain ⟨_, _, _, _, _, _, _, _, _, _, _, rfl⟩ := h; rfl) | (obtain ⟨_, _, _, _, _, _, _, _, _, _, _, _, rfl⟩ := h; rfl) | (obtain ⟨_, _, _, _, _, _, _, _, _, _, _, _, _, rfl⟩ := h; rfl))) (fun _ _ _ _ _ _ us hl => match us, hl with | [_, _, _, _], _ => rfl) (fun f cdv A0 outer s H vs Q E hr h => ⟨_,
    pss_one (ps_try_as (i := 4) (tb := fun W => tRet (tMthS A.desk kDesk (spDone A) (WE W) (tVar 0) (tCons (tVar 1) (tCons (tVar 2) (tCons (tVar 3) tNil))))) (ts := fun a cls d => tRet (tLst (tCons (tXf a cls d A.refd "number" (tVar 4)) tNil))) (Wout := fun _ _ _ _ => False) rfl rfl sc_Desk_answer.nd rfl rfl ⟨rfl, by decide, Or.inl T.gRefused⟩ takes0
      (fun W pn xe tk _ => pss_one (ps_ret (by exact (pe_mthS (ks := kDesk) T.cDesk (by decide +kernel) (m_Desk_done T) hr (fun σ => passAt tk σ) (pv 0) (by exact (pa_cons (pv 1) (pa_cons (pv 2) (pa_cons (pv 3) pa_nil))))))))
      (fun a oe cls d pn hz hf => pss_one (ps_ret (by exact (pe_lst (pa_cons (pe_xf T.xf T.nRefused_number hz hf (pv 4)) pa_nil)))))), ?_⟩)
  obtain ⟨Z, own, d, kd, m, call, a, r, nums, row, rfl, hD, ok, ha, hr1, hro, hl, hn, k⟩ := h
  obtain ⟨dx, g, cl, pl, kvs, hd, _⟩ := id hD.ex
  refine ⟨_, rfl, _, _, _, rfl, hd, _, rfl, _, rfl, _, rfl, Z, own, d, kd, m, call, a, r, nums, row, rfl, hD, ok, ha, hr1, hro, hl, hn, ?_⟩
  generalize dDone m call nums row = o at k
  cases o with
  | no n =>
    intro H' x s1 hx
    refine ⟨true, T.eRefused, fun _ b hb => ?_, fun z => by cases z⟩
    refine ⟨_, rfl, rfl, rfl, x, _, .int n, rfl, hx, rfl, (by show 1 ≤ sizeLine; decide), fun p hp => ?_⟩
    exact k _ own p ((hD.mono s1).mono (same_new hp)) ok (fun b z => .inl z) (Fr.same fun b o q => same_new hp _ _ (s1 _ _ q)) upd_same (not_own (hD.mono s1).live hp) (new_none s1 hp)
  | yes l m' =>
    intro H' own' p h1 h2 h3 h4 h5 h6 h7
    exact k H' own' p h1 h2 h3 h4 (by rw [h5, vi_ints]; rfl) h6 h7
end
end SC
/-! SC21: answers. -/
namespace SC
open PySem PySem.Spec PyProof.Rows L2
structure CallM where
  call : Nat
  nums : List Nat
  row : List Nat
def manyL : List Nat := [0, 1, 1, 1, 1, 1, 0, 2, 1, 1, 0, 0, 0, 1]
def CallM.enc (c : CallM) : List Nat := c.call :: (c.nums ++ if c.call = 0 ∨ c.call = 11 then c.row.length :: c.row else [])
structure CallM.Ok (c : CallM) : Prop where
  c13 : c.call ≤ 13
  ln : c.nums.length = manyL.getD c.call 0
  lr : c.row.length ≤ 400
  no : ¬ (c.call = 0 ∨ c.call = 11) → c.row = []
def stepA (s : List Int × DeskM) (c : CallM) : List Int × DeskM := let r := dAns (dDone s.2 c.call c.nums c.row) s.2; (s.1 ++ ((r.1.length : Int) :: r.1), r.2)
def desk0 : DeskM := ⟨GM.new cave0M 10, fun _ => none⟩
def runA (cs : List CallM) : List Int × DeskM := cs.foldl stepA ([], desk0)
def spAnswers (K : PySem.W.Frag) : Sp := fun vs H Q _ => ∃ (a : Addr) (cs : List CallM), vs = [.ref a] ∧ SqL K H a (vi (cs.flatMap CallM.enc)) ∧ (∀ c ∈ cs, c.Ok) ∧ (runA cs).1.length ≤ 10000000 ∧ ∀ H' p, H' p = some (.lst (vz (runA cs).1)) → Q (.ref p) H'
theorem needs_of {call : Nat} {nums : List Nat} (h13 : call ≤ 13) (h : nums.length = manyL.getD call 0) : needs call nums := by
  have e : call = 0 ∨ call = 1 ∨ call = 2 ∨ call = 3 ∨ call = 4 ∨ call = 5 ∨ call = 6 ∨ call = 7 ∨ call = 8 ∨ call = 9 ∨ call = 10 ∨ call = 11 ∨ call = 12 ∨ call = 13 := by omega
  unfold needs
  rcases e with rfl | rfl | rfl | rfl | rfl | rfl | rfl | rfl | rfl | rfl | rfl | rfl | rfl | rfl <;> (simp only [manyL, List.getD_cons_succ, List.getD_cons_zero] at h; omega)
theorem grows : ∀ (cs : List CallM) (s : List Int × DeskM), s.1.length ≤ (cs.foldl stepA s).1.length
  | [], _ => Nat.le_refl _
  | c :: cs, s => by
    refine Nat.le_trans ?_ (grows cs (stepA s c))
    show s.1.length ≤ (s.1 ++ _).length
    rw [List.length_append]
    omega
theorem run_le {cs : List CallM} (i : Nat) : ((cs.take i).foldl stepA ([], desk0)).1.length ≤ (runA cs).1.length := by
  have e : runA cs = (cs.drop i).foldl stepA ((cs.take i).foldl stepA ([], desk0)) := by
    unfold runA
    rw [← List.foldl_append, List.take_append_drop]
  rw [e]
  exact grows _ _
/-- the text of all calls about the i-th one -/
theorem enc_split {cs : List CallM} {i : Nat} {c : CallM} (h : cs[i]? = some c) : cs.flatMap CallM.enc = (cs.take i).flatMap CallM.enc ++ (c.enc ++ (cs.drop (i + 1)).flatMap CallM.enc) := by
  have e : cs = cs.take i ++ c :: cs.drop (i + 1) := by
    obtain ⟨hi, rfl⟩ := List.getElem?_eq_some_iff.mp h
    rw [← List.drop_eq_getElem_cons hi, List.take_append_drop]
  conv => lhs; rw [e]
  rw [List.flatMap_append, List.flatMap_cons]
theorem take_enc {cs : List CallM} {i : Nat} {c : CallM} (h : cs[i]? = some c) : ((cs.take (i + 1)).flatMap CallM.enc).length = ((cs.take i).flatMap CallM.enc).length + c.enc.length := by
  rw [take_snoc h, List.flatMap_append, List.length_append]; simp
theorem cut_mid (a b c : List Nat) : cutV (vi (a ++ (b ++ c))) (some (a.length : Int)) (some ((a.length + b.length : Nat) : Int)) = vi b := by
  rw [cut_row (by rw [vi_len, List.length_append, List.length_append]; omega) (by omega)]
  unfold vi
  rw [← List.map_drop, ← List.map_take, List.drop_left, Nat.add_sub_cancel_left, List.take_left]
theorem get_mid (a : List Nat) (x : Nat) (b : List Nat) : (a ++ x :: b)[a.length]? = some x := by
  rw [List.getElem?_append_right (Nat.le_refl _), Nat.sub_self]; rfl
theorem vz_len (l : List Int) : (vz l).length = l.length := List.length_map _
theorem vz_app (a b : List Int) : vz (a ++ b) = vz a ++ vz b := by unfold vz; rw [List.map_append]
section
variable {A : Ad} {Z : List Addr} {H H' : Hp} {own : List Addr} {d kd F : Addr} {m : DeskM} {o : HO}
theorem DeskAt.upF (h : DeskAt A Z H own d kd m) (hF : F ∈ Z) : DeskAt A Z (upd H F o) own d kd m := by
  obtain ⟨dx, g, cl, pl, kvs, h1, h2, h3, h4, h5, h6⟩ := h.ex
  have f : Fr [F] H (upd H F o) := (Fr.refl _ _).upd (by simp)
  have nd : d ≠ F := fun e => (mem_wk.mp h.wd).2 (e ▸ hF)
  have nk : kd ≠ F := fun e => (mem_wk.mp h.wkd).2 (e ▸ hF)
  exact ⟨⟨dx, g, cl, pl, kvs, f _ _ h1 (by simpa using nd), h2.other (h.zo F hF) (fun z => h6 F z hF), f _ _ h3 (by simpa using nk), h4.mono (hide_same f (fun b z => by rw [List.mem_singleton.mp z]; exact h.zo F hF) fun b z => .inl z), h5, h6⟩, h.wd, h.wkd, h.zo⟩
theorem DeskAt.addZ (h : DeskAt A [] H own d kd m) (hF : H F = none) : DeskAt A [F] (upd H F o) (F :: own) d kd m := by
  obtain ⟨dx, g, cl, pl, kvs, h1, h2, h3, h4, h5, h6⟩ := h.ex
  have s : Same H (upd H F o) := same_new hF
  have nF := not_own h.live hF
  have sub : Sub own H (F :: own) := fun b hb => by
    rcases List.mem_cons.mp hb with q | q
    · rw [q]; exact .inr hF
    · exact .inl q
  have hs := hide_same (W := []) (Fr.same s) (by simp) sub
  have inc : ∀ b ∈ own, b ∈ F :: own := fun b z => List.mem_cons_of_mem _ z
  have out : ∀ b ∈ own, b ∉ [F] := fun b hb z => nF (by rw [List.mem_singleton] at z; rw [← z]; exact hb)
  obtain ⟨gx, as, g1, g2, g3, g4⟩ := h2.ex
  refine ⟨⟨dx, g, cl, pl, kvs, s _ _ h1, ⟨⟨gx, as, s _ _ g1, s _ _ g2, s _ _ g3, g4.mono hs⟩, fun b hb => ?_, inc _ h2.og, inc _ h2.oc, inc _ h2.op, h2.ne⟩, s _ _ h3, h4.mono hs, h5, fun b hb => out b (h2.sub b hb)⟩,
    mem_wk.mpr ⟨inc _ h.od, out _ h.od⟩, mem_wk.mpr ⟨inc _ h.ok, out _ h.ok⟩, fun z hz => by rw [List.mem_singleton.mp hz]; exact List.mem_cons_self ..⟩
  rcases List.mem_cons.mp hb with q | q
  · rw [q]; exact ⟨_, upd_same⟩
  · obtain ⟨u, w⟩ := h2.live b q
    exact ⟨u, s _ _ w⟩
end
section
variable {P : Program} {w : World} {K : PySem.W.Frag} {mg : Str → Option Value} {base : Heap} {A : Ad}
theorem sc_answers : FnScope ["calls", "desk", "found", "at", "call", "end", "numbers", "row", "told"] ["calls"] (defScope (topS 63)) := ⟨rfl, rfl, rfl, by decide +kernel, rfl, by decide +kernel, by decide +kernel⟩
/-- what stands ahead of the i-th call -/
structure Turn0 (A : Ad) (H0 H : Hp) (F : Addr) (d kd : Addr) (own : List Addr) (s : List Int × DeskM) : Prop where
  at_ : DeskAt A [F] H own d kd s.2
  ok : s.2.Ok
  f : H F = some (.lst (vz s.1))
  same : Same H0 H
  new : ∀ b ∈ own, H0 b = none
theorem g_answers {fa : Addr} {fd : FuncData} (F : Fun K "answers" "answers" (topS 63) fa fd) (T : Txt K mg A) : FnOk P w K mg base CX0 14 fa fd ["calls"] (spAnswers K) := by
  refine F.ok (N := ["calls", "desk", "found", "at", "call", "end", "numbers", "row", "told"]) (k := 13) sc_answers (fun vs H Q E h => (by first | (obtain ⟨rfl, _⟩ := h; rfl) | (obtain ⟨_, rfl, _⟩ := h; rfl) | (obtain ⟨_, _, rfl, _⟩ := h; rfl) | (obtain ⟨_, _, _, rfl, _⟩ := h; rfl) | (obtain ⟨_, _, _, _, rfl, _⟩ := h; rfl) | (obtain ⟨_, _, _, _, _, rfl, _⟩ := h; rfl) | (obtain ⟨_, _, _, _, _, _, rfl, _⟩ := h; rfl) | (obtain ⟨_, _, _, _, _, _, _, rfl, _⟩ := h; rfl) | (obtain ⟨_, _, _, _, _, _, _, _, rfl, _⟩ := h; rfl) | (obtain ⟨_, _, _, _, _, _, _, _, _, rfl, _⟩ := h; rfl) | (obtain ⟨_, _, _, _, _, _, _, _, _, _, rfl, _⟩ := h; rfl) | (obtain ⟨_, _, _, _, _, _, _, _, _, _, _, rfl, _⟩ := h; rfl) | (obtain ⟨_, _, _, _, _, _, _, _, _, _, _, _, rfl, _⟩ := h; rfl) | (obtain ⟨_, _, _, _, _, _, _, _, _, _, _, _, _, rfl, _⟩ := h; rfl) | (obtain ⟨rfl⟩ := h; rfl) | (obtain ⟨_, rfl⟩ := h; rfl) | (obtain ⟨_, _, rfl⟩ := h; rfl) | (obtain ⟨_, _, _, rfl⟩ := h; rfl) | (obtain ⟨_, _, _, _, rfl⟩ := h; rfl) | (obtain ⟨_, _, _, _, _, rfl⟩ := h; rfl) | (obtain ⟨_, _, _, _, _, _, rfl⟩ := h; rfl) | (obtain ⟨_, _, _, _, _, _, _, rfl⟩ := h; rfl) | (obtain ⟨_, _, _, _, _, _, _, _, rfl⟩ := h; rfl) | (obtain ⟨_, _, _, _, _, _, _, _, _, rfl⟩ := h; rfl) | (obtain ⟨_, _, _, _, _, _, _, _, _, _, rfl⟩ := h; rfl) | (obtain ⟨_, _, _, _, _, _, _, _, _, _, _, rfl⟩ := h; rfl) | (obtain ⟨_, _, _, _, _, _, _, _, _, _, _, _, rfl⟩ := h; rfl) | (obtain ⟨_, _, _, _, _, _, _, _, _, _, _, _, _, rfl⟩ := h; rfl))) (fun cdv A0 outer s H vs Q E hr h => ⟨_, (pss_cons (ps_set (i := 1) sc_answers.nd rfl (by first | exact Or.inl rfl | exact Or.inr rfl) (pe_mak0 (i_Desk T) (hr.mono (by decide)) pass0))
      (pss_cons (ps_set (i := 2) sc_answers.nd rfl (by first | exact Or.inl rfl | exact Or.inr rfl) (pe_lst pa_nil))
      (pss_cons (ps_set (i := 3) sc_answers.nd rfl (by first | exact Or.inl rfl | exact Or.inr rfl) pe_int)
      (pss_cons (ps_while PassesOwn.never (pt_cmpR op_lt (pv 3) (pe_callB call_len_seq (by rfl) T.b_len PySem.boot_len (pa_cons (pv 0) pa_nil)) (nomark _)) (pss_cons (ps_set (i := 4) sc_answers.nd rfl (by first | exact Or.inl rfl | exact Or.inr rfl) (pe_ix ix_list (pv 0) (pv 3) (fun _ _ => rfl)))
      (pss_cons (ps_set (i := 5) sc_answers.nd rfl (by first | exact Or.inl rfl | exact Or.inr rfl) (pe_op op_add (pe_op op_add (pv 3) pe_int) (pe_ix ix_tup (pe_gr T.g_MANY_NUMBERS) (pv 4) (fun _ _ => rfl))))
      (pss_cons (ps_set (i := 6) sc_answers.nd rfl (by first | exact Or.inl rfl | exact Or.inr rfl) (pe_slice sl_list (pv 0) (po_some (pe_op op_add (pv 3) pe_int)) (po_some (pv 5))))
      (pss_cons (ps_set (i := 7) sc_answers.nd rfl (by first | exact Or.inl rfl | exact Or.inr rfl) (pe_lst pa_nil))
      (pss_cons (ps_if (pt_cmpR op_in_seq (pv 4) (pe_gr T.g_WITH_ROW) (by rfl)) (pss_cons (ps_set (i := 7) sc_answers.nd rfl (by first | exact Or.inl rfl | exact Or.inr rfl) (pe_slice sl_list (pv 0) (po_some (pe_op op_add (pv 5) pe_int)) (po_some (pe_op op_add (pe_op op_add (pv 5) pe_int) (pe_ix ix_list (pv 0) (pv 5) (fun _ _ => rfl))))))
      (pss_one (ps_set (i := 5) sc_answers.nd rfl (by first | exact Or.inl rfl | exact Or.inr rfl) (pe_op op_add (pe_op op_add (pv 5) pe_int) (pe_callB call_len_seq (by rfl) T.b_len PySem.boot_len (pa_cons (pv 7) pa_nil)))))) pss_nil)
      (pss_cons (ps_set (i := 8) sc_answers.nd rfl (by first | exact Or.inl rfl | exact Or.inr rfl) (pe_mth (ks := kDesk) T.cDesk (by decide +kernel) (m_Desk_answer T) (hr.mono (by decide)) pass0 (pv 1) (pa_cons (pv 4) (pa_cons (pv 6) (pa_cons (pv 7) pa_nil)))))
      (pss_cons (ps_expr (pe_bm PySem.F.plainAttrs_list PySem.F.slot_list_append PySem.F.type_list_append mt_append (pv 2) (pa_cons (pe_callB call_len_seq (by rfl) T.b_len PySem.boot_len (pa_cons (pv 8) pa_nil)) pa_nil)))
      (pss_cons (ps_expr (pe_bm PySem.F.plainAttrs_list PySem.F.slot_list_extend PySem.F.type_list_extend mt_extend (pv 2) (pa_cons (pv 8) pa_nil)))
      (pss_one (ps_set (i := 3) sc_answers.nd rfl (by first | exact Or.inl rfl | exact Or.inr rfl) (pv 5))))))))))))
      (pss_one (ps_ret (pv 2))))))), ?_⟩)
  obtain ⟨a, cs, rfl, ha, hok, hlen, k⟩ := h
  have hsz : (10000001 : Nat) ≤ sizeLine := by decide
  intro d dx hd hdx nex
  refine ⟨d, dx, rfl, upd_same, fun H1 own1 kd1 hD1 new1 f1 => ⟨rfl, (by show 0 ≤ sizeLine; decide), fun F hF => ?_⟩⟩
  have s0 : Same H (upd (upd H dx (.own d)) d (.ins A.desk dx (kz [] []))) := same_up (same_new hdx) hd
  have s1 : Same H H1 := fun b o q => f1 b o (s0 b o q) (by simpa using ne_of_none q hd)
  have hT0 : Turn0 A H (upd H1 F (.lst [])) F d kd1 (F :: own1) ([], desk0) := by
    refine ⟨hD1.addZ hF, ⟨new_ok cave0_ok (by decide) (by decide), fun j g h => by cases h⟩, upd_same, same_up s1 (new_none s1 hF), fun b hb => ?_⟩
    rcases List.mem_cons.mp hb with q | q
    · rw [q]; exact new_none s1 hF
    · rcases new1 b q with z | z
      · rw [z]; exact hd
      · exact new_none s0 z
  refine ⟨fun n σ H' => ∃ i kd own o1 o2 o3 o4 o5, n = cs.length - i ∧ i ≤ cs.length ∧ σ = [some (.ref a), some (.ref d), some (.ref F), some (.int (((cs.take i).flatMap CallM.enc).length : Nat)), o1, o2, o3, o4, o5] ∧ Turn0 A H H' F d kd own ((cs.take i).foldl stepA ([], desk0)),
    ⟨cs.length, 0, kd1, F :: own1, none, none, none, none, none, rfl, Nat.zero_le _, rfl, hT0⟩, ?_⟩
  rintro n σ H2 ⟨i, kd, own, o1, o2, o3, o4, o5, rfl, hi, rfl, hT⟩
  have sq := sq_same hT.same ha
  refine ⟨_, rfl, _, rfl, _, _, rfl, .inl sq, _, _, rfl, rfl, _, rfl, if_d (fun c => ?_) fun c => ?_⟩
  · rw [vi_len] at c
    have hi2 : i < cs.length := by
      rcases Nat.lt_or_ge i cs.length with z | z
      · exact z
      · rw [List.take_of_length_le z] at c; omega
    obtain ⟨c, hc⟩ : ∃ c, cs[i]? = some c := ⟨_, List.getElem?_eq_getElem hi2⟩
    have okc := hok c (List.mem_of_getElem? hc)
    have split := enc_split hc
    have tk := take_enc hc
    have grow := run_le (cs := cs) (i + 1)
    have nextS : (cs.take (i + 1)).foldl stepA ([], desk0) = stepA ((cs.take i).foldl stepA ([], desk0)) c := by rw [take_snoc hc, List.foldl_append]; rfl
    rw [nextS] at grow
    generalize hst : (cs.take i).foldl stepA ([], desk0) = st at hT nextS grow
    obtain ⟨acc, m⟩ := st
    generalize hpre : (cs.take i).flatMap CallM.enc = pre at split tk
    generalize (cs.drop (i + 1)).flatMap CallM.enc = post at split
    have hcall : (cs.flatMap CallM.enc)[pre.length]? = some c.call := by
      rw [split]
      exact get_mid pre c.call _
    have hlt : c.call < manyL.length := by have := okc.c13; show _ < 14; omega
    refine ⟨fun σ' H' => ∃ kd own o1 o2 o3 o4 o5, σ' = [some (.ref a), some (.ref d), some (.ref F), some (.int (((cs.take (i + 1)).flatMap CallM.enc).length : Nat)), o1, o2, o3, o4, o5] ∧ Turn0 A H H' F d kd own ((cs.take (i + 1)).foldl stepA ([], desk0)),
      fun σ' H' ⟨kd, own, o1, o2, o3, o4, o5, e, q⟩ => ⟨cs.length - (i + 1), by omega, i + 1, kd, own, o1, o2, o3, o4, o5, rfl, hi2, e, q⟩, ?_⟩
    refine ⟨_, rfl, _, rfl, _, _, _, _, rfl, rfl, sq, at_ix (j := pre.length) rfl (vi_get hcall), ?_⟩
    refine ⟨_, rfl, _, _, rfl, rfl, _, rfl, _, _, _, _, rfl, rfl, T.t_MANY_NUMBERS.sq, at_ix (j := c.call) rfl (num_get (l := manyL) hlt), _, _, rfl, rfl, ?_⟩
    have e1 : cutV (vi (cs.flatMap CallM.enc)) (some ((pre.length : Int) + 1)) (some ((pre.length : Int) + 1 + (manyL.getD c.call 0 : Nat))) = vi c.nums := by
      have q := cut_mid (pre ++ [c.call]) c.nums ((if c.call = 0 ∨ c.call = 11 then c.row.length :: c.row else []) ++ post)
      rw [split, ← okc.ln]
      have z1 : (((pre ++ [c.call]).length : Nat) : Int) = (pre.length : Int) + 1 := by rw [List.length_append]; rfl
      have z2 : (((pre ++ [c.call]).length + c.nums.length : Nat) : Int) = (pre.length : Int) + 1 + (c.nums.length : Nat) := by rw [Int.natCast_add, z1]
      rw [z1, z2] at q
      rw [← q]
      congr 2
      simp [CallM.enc]
    obtain ⟨dx2, g2, cl2, pl2, kvs2, hd2, _⟩ := id hT.at_.ex
    refine ⟨_, rfl, _, rfl, _, _, rfl, rfl, _, rfl, _, rfl, _, rfl, _, _, rfl, sq, fun p hp => ?_⟩
    rw [e1]
    have s3 := same_new (o := .lst (vi c.nums)) hp
    refine ⟨(by show 0 ≤ sizeLine; decide), fun r hrN => ?_⟩
    have s4 : Same H2 (upd (upd H2 p (.lst (vi c.nums))) r (.lst [])) := fun b o q => same_new hrN _ _ (s3 _ _ q)
    have hp4 : upd (upd H2 p (.lst (vi c.nums))) r (.lst []) p = some (.lst (vi c.nums)) := same_new hrN _ _ upd_same
    have hr4 : upd (upd H2 p (.lst (vi c.nums))) r (.lst []) r = some (.lst []) := upd_same
    generalize upd (upd H2 p (.lst (vi c.nums))) r (.lst []) = H4 at s4 hp4 hr4
    refine ⟨_, rfl, _, _, rfl, .inr T.t_WITH_ROW.sq, rfl, rfl, _, rfl, ?_⟩
    rw [show (if false = true then !inV (.int (c.call : Int)) [.int 0, .int 11] else inV (.int (c.call : Int)) [.int 0, .int 11]) = decide (c.call = 0 ∨ c.call = 11) from in2 c.call 0 11]
    refine if_d (fun w => ?_) fun w => ?_
    · have ee : c.enc = c.call :: (c.nums ++ c.row.length :: c.row) := by unfold CallM.enc; rw [if_pos w]
      have hrl : (cs.flatMap CallM.enc)[(pre ++ c.call :: c.nums).length]? = some c.row.length := by
        have q := get_mid (pre ++ c.call :: c.nums) c.row.length (c.row ++ post)
        rw [← q, split, ee]
        congr 1
        simp
      have hj : (pre.length : Int) + 1 + (manyL.getD c.call 0 : Nat) = (((pre ++ c.call :: c.nums).length : Nat) : Int) := by
        rw [List.length_append, List.length_cons, okc.ln]
        omega
      have e2 : cutV (vi (cs.flatMap CallM.enc)) (some ((pre.length : Int) + 1 + (manyL.getD c.call 0 : Nat) + 1)) (some ((pre.length : Int) + 1 + (manyL.getD c.call 0 : Nat) + 1 + (c.row.length : Nat))) = vi c.row := by
        have q := cut_mid (pre ++ (c.call :: c.nums) ++ [c.row.length]) c.row post
        have z1 : (((pre ++ (c.call :: c.nums) ++ [c.row.length]).length : Nat) : Int) = (pre.length : Int) + 1 + (manyL.getD c.call 0 : Nat) + 1 := by
          rw [List.length_append, hj]; rfl
        have z2 : (((pre ++ (c.call :: c.nums) ++ [c.row.length]).length + c.row.length : Nat) : Int) = (pre.length : Int) + 1 + (manyL.getD c.call 0 : Nat) + 1 + (c.row.length : Nat) := by rw [Int.natCast_add, z1]
        rw [z1, z2] at q
        rw [← q, split, ee]
        congr 2
        simp
      have sq4 := sq_same s4 sq
      refine ⟨_, rfl, _, rfl, _, _, rfl, rfl, _, rfl, _, rfl, _, _, rfl, rfl, _, rfl, _, rfl, _, _, _, _, rfl, rfl, sq4, at_ix hj.symm (vi_get hrl), _, _, rfl, rfl, _, rfl, _, _, rfl, sq4, fun q hqN => ?_⟩
      rw [e2]
      have s5' := same_new (o := .lst (vi c.row)) hqN
      have s5 : Same H2 (upd H4 q (.lst (vi c.row))) := fun b o z => s5' _ _ (s4 _ _ z)
      have s5q := s4
      have hp5 : upd H4 q (.lst (vi c.row)) p = some (.lst (vi c.nums)) := s5' _ _ hp4
      have hr5 : upd H4 q (.lst (vi c.row)) q = some (.lst (vi c.row)) := upd_same
      refine ⟨_, rfl, _, _, rfl, rfl, _, rfl, _, _, rfl, .inl (SqL.of upd_same), _, _, rfl, rfl, ?_⟩
      have hd5 := s5 _ _ hd2
      refine ⟨_, rfl, _, _, _, rfl, hd5, _, rfl, _, rfl, _, rfl, [F], own, d, kd, m, c.call, p, q, c.nums, c.row, rfl, hT.at_.mono s5, hT.ok, hp5, hr5, not_own (hT.at_.mono s5q).live hqN, okc.lr, needs_of okc.c13 okc.ln, fun H6 own6 t h1 h2 h3 h4 h5 h6 h7 => ?_⟩
      have hF6 : H6 F = some (.lst (vz acc)) := h4 _ _ (s5 _ _ hT.f) fun z => (mem_wk.mp z).2 (by simp)
      have ntF : t ≠ F := fun e => h6 (e ▸ h1.zo F (by simp))
      have hF0 : H F = none := hT.new F (hT.at_.zo F (by simp))
      have eS : stepA (acc, m) c = (acc ++ (((dAns (dDone m c.call c.nums c.row) m).1.length : Int) :: (dAns (dDone m c.call c.nums c.row) m).1), (dAns (dDone m c.call c.nums c.row) m).2) := rfl
      rw [eS] at nextS grow
      generalize dAns (dDone m c.call c.nums c.row) m = ra at h1 h2 h5 nextS grow
      have len : acc.length + (ra.1.length + 1) ≤ 10000000 := by
        have : (acc ++ ((ra.1.length : Int) :: ra.1)).length ≤ 10000000 := Nat.le_trans grow hlen
        rw [List.length_append, List.length_cons] at this
        exact this
      refine ⟨_, rfl, .inl ⟨rfl, _, SqL.of hF6⟩, _, rfl, _, _, rfl, .inl (SqL.of h5), F, _, _, rfl, rfl, hF6, by rw [vz_len]; omega, ?_⟩
      refine ⟨_, rfl, .inl ⟨rfl, _, SqL.of upd_same⟩, _, rfl, F, t, _, _, rfl, rfl, upd_same, (by rw [upd_ne ntF]; exact h5), (by rw [List.length_append, vz_len, vz_len]; show acc.length + 1 + _ ≤ _; omega), ?_⟩
      refine ⟨_, rfl, kd, own6, some (.int c.call), some (.int ((pre.length : Int) + 1 + (manyL.getD c.call 0 : Nat) + 1 + ((vi c.row).length : Nat))), some (.ref p), some (.ref q), some (.ref t), ?_, ?_⟩
      · have hEnd : (pre.length : Int) + 1 + (manyL.getD c.call 0 : Nat) + 1 + ((vi c.row).length : Nat) = (((cs.take (i + 1)).flatMap CallM.enc).length : Int) := by
          rw [tk]
          have z : c.enc.length = 1 + c.nums.length + (1 + c.row.length) := by
            unfold CallM.enc
            rw [if_pos w, List.length_cons, List.length_append, List.length_cons]
            omega
          rw [z, okc.ln, vi_len]
          omega
        rw [← hEnd]; rfl
      · rw [nextS]
        refine ⟨(h1.upF (by simp)).upF (by simp), h2, ?_, fun b o u => ?_, fun b hb => ?_⟩
        · rw [upd_same, vz_len]
          show _ = some (HO.lst (vz (acc ++ ((ra.1.length : Int) :: ra.1))))
          rw [vz_app, List.append_assoc]
          rfl
        · have nF : b ≠ F := ne_of_none u hF0
          rw [upd_ne nF, upd_ne nF]
          refine h4 _ _ (s5 _ _ (hT.same _ _ u)) fun z => ?_
          rw [hT.new b (mem_wk.mp z).1] at u
          cases u
        · rcases h3 b hb with z | z
          · exact hT.new b z
          · exact new_none hT.same (new_none s5 z)
    · have er : c.row = [] := okc.no w
      have s5 := s4
      have s5q := s3
      have hp5 := hp4
      have hr5 : H4 r = some (.lst (vi c.row)) := by rw [er]; exact hr4
      have hd5 := s5 _ _ hd2
      refine ⟨_, rfl, _, _, _, rfl, hd5, _, rfl, _, rfl, _, rfl, [F], own, d, kd, m, c.call, p, r, c.nums, c.row, rfl, hT.at_.mono s5, hT.ok, hp5, hr5, not_own (hT.at_.mono s5q).live hrN, okc.lr, needs_of okc.c13 okc.ln, fun H6 own6 t h1 h2 h3 h4 h5 h6 h7 => ?_⟩
      have hF6 : H6 F = some (.lst (vz acc)) := h4 _ _ (s5 _ _ hT.f) fun z => (mem_wk.mp z).2 (by simp)
      have ntF : t ≠ F := fun e => h6 (e ▸ h1.zo F (by simp))
      have hF0 : H F = none := hT.new F (hT.at_.zo F (by simp))
      have eS : stepA (acc, m) c = (acc ++ (((dAns (dDone m c.call c.nums c.row) m).1.length : Int) :: (dAns (dDone m c.call c.nums c.row) m).1), (dAns (dDone m c.call c.nums c.row) m).2) := rfl
      rw [eS] at nextS grow
      generalize dAns (dDone m c.call c.nums c.row) m = ra at h1 h2 h5 nextS grow
      have len : acc.length + (ra.1.length + 1) ≤ 10000000 := by
        have : (acc ++ ((ra.1.length : Int) :: ra.1)).length ≤ 10000000 := Nat.le_trans grow hlen
        rw [List.length_append, List.length_cons] at this
        exact this
      refine ⟨_, rfl, .inl ⟨rfl, _, SqL.of hF6⟩, _, rfl, _, _, rfl, .inl (SqL.of h5), F, _, _, rfl, rfl, hF6, by rw [vz_len]; omega, ?_⟩
      refine ⟨_, rfl, .inl ⟨rfl, _, SqL.of upd_same⟩, _, rfl, F, t, _, _, rfl, rfl, upd_same, (by rw [upd_ne ntF]; exact h5), (by rw [List.length_append, vz_len, vz_len]; show acc.length + 1 + _ ≤ _; omega), ?_⟩
      refine ⟨_, rfl, kd, own6, some (.int c.call), some (.int ((pre.length : Int) + 1 + (manyL.getD c.call 0 : Nat))), some (.ref p), some (.ref r), some (.ref t), ?_, ?_⟩
      · have hEnd : (pre.length : Int) + 1 + (manyL.getD c.call 0 : Nat) = (((cs.take (i + 1)).flatMap CallM.enc).length : Int) := by
          rw [tk]
          have z : c.enc.length = 1 + c.nums.length := by unfold CallM.enc; rw [if_neg w, List.append_nil, List.length_cons, Nat.add_comm]
          rw [z, okc.ln]
          omega
        rw [← hEnd]; rfl
      · rw [nextS]
        refine ⟨(h1.upF (by simp)).upF (by simp), h2, ?_, fun b o q => ?_, fun b hb => ?_⟩
        · rw [upd_same, vz_len]
          show _ = some (HO.lst (vz (acc ++ ((ra.1.length : Int) :: ra.1))))
          rw [vz_app, List.append_assoc]
          rfl
        · have nF : b ≠ F := ne_of_none q hF0
          rw [upd_ne nF, upd_ne nF]
          refine h4 _ _ (s5 _ _ (hT.same _ _ q)) fun z => ?_
          rw [hT.new b (mem_wk.mp z).1] at q
          cases q
        · rcases h3 b hb with z | z
          · exact hT.new b z
          · exact new_none hT.same (new_none s5 z)
  · rw [vi_len] at c
    have hi2 : i = cs.length := by
      rcases Nat.lt_or_ge i cs.length with z | z
      · refine absurd ?_ c
        have e := enc_split (List.getElem?_eq_getElem z)
        rw [e, List.length_append, List.length_append]
        show _ < ((_ + ((cs[i].call :: _).length + _) : Nat) : Int)
        rw [List.length_cons]
        omega
      · omega
    subst hi2
    have hf := hT.f
    rw [List.take_of_length_le (Nat.le_refl _)] at hf
    exact ⟨_, rfl, k H2 F hf⟩
end
end SC
/-! SC22: what the top has written. -/
namespace SC
open PySem PySem.Spec PyProof.Rows L2
/-- an error of the class at S is what «except S» names -/
theorem exm_self {K : PySem.W.Frag} {S : Addr} (h1 : PySem.W.subIn K (.ref S) (.type "BaseException") = some true) (h2 : PySem.W.isClsIn K S = true) (h3 : PySem.W.typeIn K (.ref S) = some (.type "type")) (h4 : PySem.W.subIn K (.ref S) (.ref S) = some true) :
    PySem.W.exmOne K (.ref S) (.ref S) = some true := by
  have e1 : (PySem.W.subIn K (.ref S) (.type "BaseException") == some true) = true := by rw [h1] <;> rfl
  have e2 : ((PySem.W.clsIn K S).isSome && PySem.W.typeIn K (.ref S) == some (.type "type")) = true := by
    have h2' : (PySem.W.clsIn K S).isSome = true := h2
    rw [h2', h3] <;> rfl
  show (if (PySem.W.subIn K (.ref S) (.type "BaseException") == some true) = true then (if ((PySem.W.clsIn K S).isSome && PySem.W.typeIn K (.ref S) == some (.type "type")) = true then PySem.W.subIn K (.ref S) (.ref S) else none) else none) = some true
  rw [if_pos e1, if_pos e2]
  exact h4
theorem all_mk {P : Program} {w : World} {K : PySem.W.Frag} {h : Heap} {mg : Str → Option Value} {fa : Addr} (X : K.In h) (G : h.Ns mainGlobals mg) (hfa : mg "answers" = some (.ref fa))
    {cave tick game refd desk bytes loose falling lyingT ways w0 w1 w2 w3 down manyN withR refI : Addr} {f0 f1 f2 f3 f4 f5 f6 f7 f8 f9 f10 f11 f12 f13 f14 f15 f16 f17 f18 f19 f20 f21 f22 f23 f24 f25 f26 f27 f28 f29 f30 f31 f32 f33 f34 f35 f36 f38 f39 f40 f41 f42 f43 f44 f45 f46 f47 f48 f49 f50 f51 f52 f53 f54 f55 f56 : Addr}
    {k0 k1 k2 k3 k4 k5 k6 k7 k8 k9 k10 k11 k12 k13 k14 k15 k16 k17 k18 k19 k20 k21 k22 k23 k24 k25 k26 k27 k28 k29 k30 k31 k32 k33 k34 k35 k36 k37 k38 k39 k40 k41 k42 k43 k44 k45 k46 k47 k48 k49 k50 k51 k52 k53 k54 k55 k56 k57 k58 k59 k60 k61 k62 k63 k64 k65 k66 k67 k68 k69 k70 k71 k72 k73 k74 k75 k76 k77 k78 k79 k80 k81 : Tok} {m0 m1 m2 m3 m4 m5 m6 m7 m8 m9 m10 m11 : Nat} {tl0 tl1 tl2 tl3 tl4 tl5 tl6 tl7 tl8 tl9 tl10 tl11 : Array (Option Value)}
    {od0 od1 od2 od3 od4 od5 od6 od7 od8 od9 od10 od11 od12 od13 od14 od15 od16 od17 od18 od19 od20 od21 od22 od23 od24 od25 od26 od27 od28 od29 od30 od31 od32 od33 od34 od35 od36 od37 od38 od39 od40 od41 od42 od43 od44 od45 od46 od47 od48 od49 od50 od51 od52 od53 od54 od55 od56 an0 an1 an2 an3 an4 an5 an6 an7 an8 an9 an10 an11 an12 an13 an14 an15 an16 an17 an18 an19 an20 an21 an22 an23 an24 an25 an26 an27 an28 an29 an30 an31 an32 an33 an34 an35 an36 an37 an38 an39 an40 an41 an42 an43 an44 an45 an46 an47 an48 an49 an50 an51 an52 an53 an54 an55 an56 : Option Addr} {sl0 sl1 sl2 sl3 sl4 sl5 sl6 sl7 sl8 sl9 sl10 sl11 sl12 sl13 sl14 sl15 sl16 sl17 sl18 sl19 sl20 sl21 sl22 sl23 sl24 sl25 sl26 sl27 sl28 sl29 sl30 sl31 sl32 sl33 sl34 sl35 sl36 sl37 sl38 sl39 sl40 sl41 sl42 sl43 sl44 sl45 sl46 sl47 sl48 sl49 sl50 sl51 sl52 sl53 sl54 sl55 sl56 : Array (Option Value)}
    {oc0 oc1 oc2 oc3 oc4 oc5 oc6 oc7 oc8 oc9 oc10 oc11 oc12 oc13 oc14 oc15 oc16 oc17 oc18 oc19 oc20 oc21 oc22 oc23 oc24 oc25 oc26 oc27 oc28 oc29 oc30 oc31 oc32 oc33 oc34 oc35 oc36 oc37 oc38 oc39 oc40 oc41 oc42 oc43 oc44 oc45 oc46 oc47 oc48 oc49 oc50 oc51 oc52 oc53 oc54 oc55 oc56 kV0 kV1 kV2 kV3 kV4 kV5 kV6 kV7 kV8 kV9 kV10 kV11 kV12 kV13 kV14 kV15 kV16 kV17 kV18 kV19 kV20 kV21 kV22 kV23 kV24 kV25 kV26 kV27 kV28 kV29 kV30 kV31 kV32 kV33 kV34 kV35 kV36 kV37 kV38 kV39 kV40 kV41 kV42 kV43 kV44 kV45 kV46 kV47 kV48 kV49 kV50 kV51 kV52 kV53 kV54 kV55 kV56 dc0 dc1 dc2 dc3 dc4 dc5 dc6 dc7 dc8 dc9 dc10 dc11 dc12 dc13 dc14 dc15 dc16 dc17 dc18 dc19 dc20 dc21 dc22 dc23 dc24 dc25 dc26 dc27 dc28 dc29 dc30 dc31 dc32 dc33 dc34 dc35 dc36 dc37 dc38 dc39 dc40 dc41 dc42 dc43 dc44 dc45 dc46 dc47 dc48 dc49 dc50 dc51 dc52 dc53 dc54 dc55 dc56 pm0 pm1 pm2 pm3 pm4 pm5 pm6 pm7 pm8 pm9 pm10 pm11 pm12 pm13 pm14 pm15 pm16 pm17 pm18 pm19 pm20 pm21 pm22 pm23 pm24 pm25 pm26 pm27 pm28 pm29 pm30 pm31 pm32 pm33 pm34 pm35 pm36 pm37 pm38 pm39 pm40 pm41 pm42 pm43 pm44 pm45 pm46 pm47 pm48 pm49 pm50 pm51 pm52 pm53 pm54 pm55 pm56 cd0 cd1 cd2 cd3 cd4 cd5 cd6 cd7 cd8 cd9 cd10 cd11 cd12 cd13 cd14 cd15 cd16 cd17 cd18 cd19 cd20 cd21 cd22 cd23 cd24 cd25 cd26 cd27 cd28 cd29 cd30 cd31 cd32 cd33 cd34 cd35 cd36 cd37 cd38 cd39 cd40 cd41 cd42 cd43 cd44 cd45 cd46 cd47 cd48 cd49 cd50 cd51 cd52 cd53 cd54 cd55 cd56 ct0 ct1 ct2 ct3 ct4 ct5 ct6 ct7 ct8 ct9 ct10 ct11 ct12 ct13 ct14 ct15 ct16 ct17 ct18 ct19 ct20 ct21 ct22 ct23 ct24 ct25 ct26 ct27 ct28 ct29 ct30 ct31 ct32 ct33 ct34 ct35 ct36 ct37 ct38 ct39 ct40 ct41 ct42 ct43 ct44 ct45 ct46 ct47 ct48 ct49 ct50 ct51 ct52 ct53 ct54 ct55 ct56 : Value}
    {xnm xq : Str} {xN : Addr} {xbs : List Value} {xsn : List Str} {xsub : List Value} {xab : Bool} {xcol : Option Bool} {xdd : Option Addr} {x0 x1 x2 x3 x5 : Option Value}
    (n_NOTHING : PySem.W.nsIn K mainGlobals "NOTHING" = some (some (.int (0) k0)))
    (n_EARTH : PySem.W.nsIn K mainGlobals "EARTH" = some (some (.int (1) k1)))
    (n_WALL : PySem.W.nsIn K mainGlobals "WALL" = some (some (.int (2) k2)))
    (n_STONE : PySem.W.nsIn K mainGlobals "STONE" = some (some (.int (3) k3)))
    (n_FALLING_STONE : PySem.W.nsIn K mainGlobals "FALLING_STONE" = some (some (.int (4) k4)))
    (n_GEM : PySem.W.nsIn K mainGlobals "GEM" = some (some (.int (5) k5)))
    (n_FALLING_GEM : PySem.W.nsIn K mainGlobals "FALLING_GEM" = some (some (.int (6) k6)))
    (n_PLAYER : PySem.W.nsIn K mainGlobals "PLAYER" = some (some (.int (7) k7)))
    (n_FIRST_MONSTER : PySem.W.nsIn K mainGlobals "FIRST_MONSTER" = some (some (.int (8) k8)))
    (n_LAST_MONSTER : PySem.W.nsIn K mainGlobals "LAST_MONSTER" = some (some (.int (11) k9)))
    (n_EXIT : PySem.W.nsIn K mainGlobals "EXIT" = some (some (.int (12) k10)))
    (n_LINE_END : PySem.W.nsIn K mainGlobals "LINE_END" = some (some (.int (10) k11)))
    (n_MOST_WIDE : PySem.W.nsIn K mainGlobals "MOST_WIDE" = some (some (.int (20) k12)))
    (n_MOST_HIGH : PySem.W.nsIn K mainGlobals "MOST_HIGH" = some (some (.int (14) k13)))
    (n_GOES_ON : PySem.W.nsIn K mainGlobals "GOES_ON" = some (some (.int (0) k14)))
    (n_WON : PySem.W.nsIn K mainGlobals "WON" = some (some (.int (1) k15)))
    (n_LOST : PySem.W.nsIn K mainGlobals "LOST" = some (some (.int (2) k16)))
    (n_FOR_GEM : PySem.W.nsIn K mainGlobals "FOR_GEM" = some (some (.int (10) k17)))
    (n_FOR_MONSTER : PySem.W.nsIn K mainGlobals "FOR_MONSTER" = some (some (.int (20) k18)))
    (n_FOR_EXIT : PySem.W.nsIn K mainGlobals "FOR_EXIT" = some (some (.int (100) k19)))
    (n_NOT_AS_TOLD : PySem.W.nsIn K mainGlobals "NOT_AS_TOLD" = some (some (.int (-1) k20)))
    (n_NONE_THERE : PySem.W.nsIn K mainGlobals "NONE_THERE" = some (some (.int (-2) k21)))
    (n_TOO_MANY : PySem.W.nsIn K mainGlobals "TOO_MANY" = some (some (.int (-5) k22)))
    (n_ALIKE : PySem.W.nsIn K mainGlobals "ALIKE" = some (some (.int (-6) k23)))
    (n_FAULT : PySem.W.nsIn K mainGlobals "FAULT" = some (some (.int (-10) k24)))
    (n_LONGEST : PySem.W.nsIn K mainGlobals "LONGEST" = some (some (.int (300) k25)))
    (n_MOST_BYTE : PySem.W.nsIn K mainGlobals "MOST_BYTE" = some (some (.int (255) k26)))
    (n_MOST_KEY : PySem.W.nsIn K mainGlobals "MOST_KEY" = some (some (.int (4) k27)))
    (n_MOST_PARTS : PySem.W.nsIn K mainGlobals "MOST_PARTS" = some (some (.int (1000) k28)))
    (n_MOST_TICKS : PySem.W.nsIn K mainGlobals "MOST_TICKS" = some (some (.int (400) k29)))
    (n_FIRST_LENGTH : PySem.W.nsIn K mainGlobals "FIRST_LENGTH" = some (some (.int (10) k30)))
    (n_MOST_LENGTH : PySem.W.nsIn K mainGlobals "MOST_LENGTH" = some (some (.int (100) k31)))
    (n_MOST_KEPT : PySem.W.nsIn K mainGlobals "MOST_KEPT" = some (some (.int (9) k32)))
    (n_MOST_PRESSED : PySem.W.nsIn K mainGlobals "MOST_PRESSED" = some (some (.int (100) k33)))
    (n_SORTS : PySem.W.nsIn K mainGlobals "SORTS" = some (some (.int (13) k34)))
    (n_BYTES : PySem.W.nsIn K mainGlobals "BYTES" = some (some (.ref bytes)))
    (l_BYTES : K.lookup bytes = some ⟨.type "tuple", none, .seq #[.int (32) k35, .int (58) k36, .int (35) k37, .int (111) k38, .int (79) k39, .int (42) k40, .int (43) k41, .int (64) k42, .int (62) k43, .int (118) k44, .int (60) k45, .int (94) k46, .int (69) k47] m0, tl0⟩)
    (n_LOOSE : PySem.W.nsIn K mainGlobals "LOOSE" = some (some (.ref loose)))
    (l_LOOSE : K.lookup loose = some ⟨.type "tuple", none, .seq #[.int (3) k48, .int (4) k49, .int (5) k50, .int (6) k51] m1, tl1⟩)
    (n_FALLING : PySem.W.nsIn K mainGlobals "FALLING" = some (some (.ref falling)))
    (l_FALLING : K.lookup falling = some ⟨.type "tuple", none, .seq #[.int (4) k52, .int (6) k53] m2, tl2⟩)
    (n_LYING : PySem.W.nsIn K mainGlobals "LYING" = some (some (.ref lyingT)))
    (l_LYING : K.lookup lyingT = some ⟨.type "tuple", none, .seq #[.int (3) k54, .int (5) k55] m3, tl3⟩)
    (n_WAYS : PySem.W.nsIn K mainGlobals "WAYS" = some (some (.ref ways)))
    (l_WAYS : K.lookup ways = some ⟨.type "tuple", none, .seq #[.ref w0, .ref w1, .ref w2, .ref w3] m4, tl4⟩)
    (n_DOWN : PySem.W.nsIn K mainGlobals "DOWN" = some (some (.ref down)))
    (l_DOWN : K.lookup down = some ⟨.type "tuple", none, .seq #[.int (0) k56, .int (1) k57] m5, tl5⟩)
    (n_MANY_NUMBERS : PySem.W.nsIn K mainGlobals "MANY_NUMBERS" = some (some (.ref manyN)))
    (l_MANY_NUMBERS : K.lookup manyN = some ⟨.type "tuple", none, .seq #[.int (0) k58, .int (1) k59, .int (1) k60, .int (1) k61, .int (1) k62, .int (1) k63, .int (0) k64, .int (2) k65, .int (1) k66, .int (1) k67, .int (0) k68, .int (0) k69, .int (0) k70, .int (1) k71] m6, tl6⟩)
    (n_WITH_ROW : PySem.W.nsIn K mainGlobals "WITH_ROW" = some (some (.ref withR)))
    (l_WITH_ROW : K.lookup withR = some ⟨.type "tuple", none, .seq #[.int (0) k72, .int (11) k73] m7, tl7⟩)
    (l_w0 : K.lookup w0 = some ⟨.type "tuple", none, .seq #[.int (1) k74, .int (0) k75] m8, tl8⟩)
    (l_w1 : K.lookup w1 = some ⟨.type "tuple", none, .seq #[.int (0) k76, .int (1) k77] m9, tl9⟩)
    (l_w2 : K.lookup w2 = some ⟨.type "tuple", none, .seq #[.int (-1) k78, .int (0) k79] m10, tl10⟩)
    (l_w3 : K.lookup w3 = some ⟨.type "tuple", none, .seq #[.int (0) k80, .int (-1) k81] m11, tl11⟩)
    (z_len : PySem.W.nsIn K mainGlobals "len" = some none)
    (z_range : PySem.W.nsIn K mainGlobals "range" = some none)
    (z_any : PySem.W.nsIn K mainGlobals "any" = some none)
    (z_all : PySem.W.nsIn K mainGlobals "all" = some none)
    (z_list : PySem.W.nsIn K mainGlobals "list" = some none)
    (z_int : PySem.W.nsIn K mainGlobals "int" = some none)
    (z_min : PySem.W.nsIn K mainGlobals "min" = some none)
    (z_enumerate : PySem.W.nsIn K mainGlobals "enumerate" = some none)
    (z_zip : PySem.W.nsIn K mainGlobals "zip" = some none)
    (z_ValueError : PySem.W.nsIn K mainGlobals "ValueError" = some none)
    (n_Cave : PySem.W.nsIn K mainGlobals "Cave" = some (some (.ref cave)))
    (pg_Cave : PySem.W.plainGet K cave Str.empty = true)
    (hd_Cave : PySem.W.hasDictIn K cave = true)
    (po_Cave : PySem.W.plainOver K cave = true)
    (sa_Cave : PySem.W.findIn K (.ref cave) "__setattr__" = some (some (.builtin "object.__setattr__")))
    (mk_Cave : PySem.W.makesIn K cave = true)
    (kc_Cave : PySem.W.keepIn K (.ref cave) = true)
    (f_Cave_wide : PySem.W.findIn K (.ref cave) "wide" = some none)
    (f_Cave_high : PySem.W.findIn K (.ref cave) "high" = some none)
    (f_Cave_cells : PySem.W.findIn K (.ref cave) "cells" = some none)
    (f_Cave_standing : PySem.W.findIn K (.ref cave) "standing" = some none)
    (f_Cave_points : PySem.W.findIn K (.ref cave) "points" = some none)
    (n_Tick : PySem.W.nsIn K mainGlobals "Tick" = some (some (.ref tick)))
    (pg_Tick : PySem.W.plainGet K tick Str.empty = true)
    (hd_Tick : PySem.W.hasDictIn K tick = true)
    (po_Tick : PySem.W.plainOver K tick = true)
    (sa_Tick : PySem.W.findIn K (.ref tick) "__setattr__" = some (some (.builtin "object.__setattr__")))
    (mk_Tick : PySem.W.makesIn K tick = true)
    (kc_Tick : PySem.W.keepIn K (.ref tick) = true)
    (f_Tick_wide : PySem.W.findIn K (.ref tick) "wide" = some none)
    (f_Tick_high : PySem.W.findIn K (.ref tick) "high" = some none)
    (f_Tick_cells : PySem.W.findIn K (.ref tick) "cells" = some none)
    (f_Tick_had : PySem.W.findIn K (.ref tick) "had" = some none)
    (f_Tick_standing : PySem.W.findIn K (.ref tick) "standing" = some none)
    (f_Tick_points : PySem.W.findIn K (.ref tick) "points" = some none)
    (n_Game : PySem.W.nsIn K mainGlobals "Game" = some (some (.ref game)))
    (pg_Game : PySem.W.plainGet K game Str.empty = true)
    (hd_Game : PySem.W.hasDictIn K game = true)
    (po_Game : PySem.W.plainOver K game = true)
    (sa_Game : PySem.W.findIn K (.ref game) "__setattr__" = some (some (.builtin "object.__setattr__")))
    (mk_Game : PySem.W.makesIn K game = true)
    (kc_Game : PySem.W.keepIn K (.ref game) = true)
    (f_Game_caves : PySem.W.findIn K (.ref game) "caves" = some none)
    (f_Game_pressed : PySem.W.findIn K (.ref game) "pressed" = some none)
    (f_Game_left : PySem.W.findIn K (.ref game) "left" = some none)
    (f_Game_length : PySem.W.findIn K (.ref game) "length" = some none)
    (f_Game_held : PySem.W.findIn K (.ref game) "held" = some none)
    (n_Desk : PySem.W.nsIn K mainGlobals "Desk" = some (some (.ref desk)))
    (pg_Desk : PySem.W.plainGet K desk Str.empty = true)
    (hd_Desk : PySem.W.hasDictIn K desk = true)
    (po_Desk : PySem.W.plainOver K desk = true)
    (sa_Desk : PySem.W.findIn K (.ref desk) "__setattr__" = some (some (.builtin "object.__setattr__")))
    (mk_Desk : PySem.W.makesIn K desk = true)
    (kc_Desk : PySem.W.keepIn K (.ref desk) = true)
    (f_Desk_game : PySem.W.findIn K (.ref desk) "game" = some none)
    (f_Desk_kept : PySem.W.findIn K (.ref desk) "kept" = some none)
    (n_Refused : PySem.W.nsIn K mainGlobals "Refused" = some (some (.ref refd)))
    (x_Refused : K.lookup refd = some (excClassObj xnm xq refd xN xbs [.type "ValueError", .type "Exception", .type "BaseException", .type "object"] true xsn xsub xab xcol xdd x0 x1 x2 x3 x5 "ValueError.__new__"))
    (sa_Refused : PySem.W.findIn K (.ref refd) "__setattr__" = some (some (.builtin "object.__setattr__")))
    (ga_Refused : PySem.W.findIn K (.ref refd) "__getattribute__" = some (some (.builtin "BaseException.__getattribute__")))
    (gg_Refused : PySem.W.findIn K (.ref refd) "__getattr__" = some none)
    (nb_Refused : PySem.W.findIn K (.ref refd) "number" = some none)
    (kc_Refused : PySem.W.keepIn K (.ref refd) = true)
    (ex_Refused : PySem.W.subIn K (.ref refd) (.type "BaseException") = some true)
    (ty_Refused : PySem.W.typeIn K (.ref refd) = some (.type "type"))
    (hd_Refused : PySem.W.hasDictIn K refd = true)
    (ic_Refused : PySem.W.isClsIn K refd = true)
    (ss_Refused : PySem.W.subIn K (.ref refd) (.ref refd) = some true)
    (ve : PySem.W.findCls K (.type "ValueError") (.type "type") "__init__" = some (.val (.builtin "ValueError.__init__")))
    (a_Cave___init__ : PySem.W.findIn K (.ref cave) "__init__" = some (some (.ref f0)))
    (i_Cave___init__ : PySem.W.isFn K (.ref f0) = true)
    (l_Cave___init__ : K.lookup f0 = some ⟨oc0, od0, .func (PySem.W.fnOf "__init__" "Cave.__init__" (defArgs (inClass (topS 17) 0)) (defBody (inClass (topS 17) 0)) (defScope (inClass (topS 17) 0)) .none kV0 dc0 pm0 an0 cd0 ct0), sl0⟩)
    (c_Cave___init__ : PySem.W.codeIn K cd0 "Cave.__init__" = true)
    (k_Cave___init__ : PySem.W.keepIn K (.ref f0) = true)
    (a_Cave_gems : PySem.W.findIn K (.ref cave) "gems" = some (some (.ref f1)))
    (i_Cave_gems : PySem.W.isFn K (.ref f1) = true)
    (l_Cave_gems : K.lookup f1 = some ⟨oc1, od1, .func (PySem.W.fnOf "gems" "Cave.gems" (defArgs (inClass (topS 17) 1)) (defBody (inClass (topS 17) 1)) (defScope (inClass (topS 17) 1)) .none kV1 dc1 pm1 an1 cd1 ct1), sl1⟩)
    (c_Cave_gems : PySem.W.codeIn K cd1 "Cave.gems" = true)
    (k_Cave_gems : PySem.W.keepIn K (.ref f1) = true)
    (a_Cave_written : PySem.W.findIn K (.ref cave) "written" = some (some (.ref f2)))
    (i_Cave_written : PySem.W.isFn K (.ref f2) = true)
    (l_Cave_written : K.lookup f2 = some ⟨oc2, od2, .func (PySem.W.fnOf "written" "Cave.written" (defArgs (inClass (topS 17) 2)) (defBody (inClass (topS 17) 2)) (defScope (inClass (topS 17) 2)) .none kV2 dc2 pm2 an2 cd2 ct2), sl2⟩)
    (c_Cave_written : PySem.W.codeIn K cd2 "Cave.written" = true)
    (k_Cave_written : PySem.W.keepIn K (.ref f2) = true)
    (a_Cave_is_like : PySem.W.findIn K (.ref cave) "is_like" = some (some (.ref f3)))
    (i_Cave_is_like : PySem.W.isFn K (.ref f3) = true)
    (l_Cave_is_like : K.lookup f3 = some ⟨oc3, od3, .func (PySem.W.fnOf "is_like" "Cave.is_like" (defArgs (inClass (topS 17) 3)) (defBody (inClass (topS 17) 3)) (defScope (inClass (topS 17) 3)) .none kV3 dc3 pm3 an3 cd3 ct3), sl3⟩)
    (c_Cave_is_like : PySem.W.codeIn K cd3 "Cave.is_like" = true)
    (k_Cave_is_like : PySem.W.keepIn K (.ref f3) = true)
    (a_rows_in : PySem.W.nsIn K mainGlobals "rows_in" = some (some (.ref f4)))
    (l_rows_in : K.lookup f4 = some ⟨oc4, od4, .func (PySem.W.fnOf "rows_in" "rows_in" (defArgs (topS 18)) (defBody (topS 18)) (defScope (topS 18)) .none kV4 dc4 pm4 an4 cd4 ct4), sl4⟩)
    (c_rows_in : PySem.W.codeIn K cd4 "rows_in" = true)
    (k_rows_in : PySem.W.keepIn K (.ref f4) = true)
    (a_fault_of : PySem.W.nsIn K mainGlobals "fault_of" = some (some (.ref f5)))
    (l_fault_of : K.lookup f5 = some ⟨oc5, od5, .func (PySem.W.fnOf "fault_of" "fault_of" (defArgs (topS 19)) (defBody (topS 19)) (defScope (topS 19)) .none kV5 dc5 pm5 an5 cd5 ct5), sl5⟩)
    (c_fault_of : PySem.W.codeIn K cd5 "fault_of" = true)
    (k_fault_of : PySem.W.keepIn K (.ref f5) = true)
    (a_cave_of : PySem.W.nsIn K mainGlobals "cave_of" = some (some (.ref f6)))
    (l_cave_of : K.lookup f6 = some ⟨oc6, od6, .func (PySem.W.fnOf "cave_of" "cave_of" (defArgs (topS 20)) (defBody (topS 20)) (defScope (topS 20)) .none kV6 dc6 pm6 an6 cd6 ct6), sl6⟩)
    (c_cave_of : PySem.W.codeIn K cd6 "cave_of" = true)
    (k_cave_of : PySem.W.keepIn K (.ref f6) = true)
    (a_first_cave : PySem.W.nsIn K mainGlobals "first_cave" = some (some (.ref f7)))
    (l_first_cave : K.lookup f7 = some ⟨oc7, od7, .func (PySem.W.fnOf "first_cave" "first_cave" (defArgs (topS 21)) (defBody (topS 21)) (defScope (topS 21)) .none kV7 dc7 pm7 an7 cd7 ct7), sl7⟩)
    (c_first_cave : PySem.W.codeIn K cd7 "first_cave" = true)
    (k_first_cave : PySem.W.keepIn K (.ref f7) = true)
    (a_fallen : PySem.W.nsIn K mainGlobals "fallen" = some (some (.ref f8)))
    (l_fallen : K.lookup f8 = some ⟨oc8, od8, .func (PySem.W.fnOf "fallen" "fallen" (defArgs (topS 33)) (defBody (topS 33)) (defScope (topS 33)) .none kV8 dc8 pm8 an8 cd8 ct8), sl8⟩)
    (c_fallen : PySem.W.codeIn K cd8 "fallen" = true)
    (k_fallen : PySem.W.keepIn K (.ref f8) = true)
    (a_lying : PySem.W.nsIn K mainGlobals "lying" = some (some (.ref f9)))
    (l_lying : K.lookup f9 = some ⟨oc9, od9, .func (PySem.W.fnOf "lying" "lying" (defArgs (topS 34)) (defBody (topS 34)) (defScope (topS 34)) .none kV9 dc9 pm9 an9 cd9 ct9), sl9⟩)
    (c_lying : PySem.W.codeIn K cd9 "lying" = true)
    (k_lying : PySem.W.keepIn K (.ref f9) = true)
    (a_is_monster : PySem.W.nsIn K mainGlobals "is_monster" = some (some (.ref f10)))
    (l_is_monster : K.lookup f10 = some ⟨oc10, od10, .func (PySem.W.fnOf "is_monster" "is_monster" (defArgs (topS 35)) (defBody (topS 35)) (defScope (topS 35)) .none kV10 dc10 pm10 an10 cd10 ct10), sl10⟩)
    (c_is_monster : PySem.W.codeIn K cd10 "is_monster" = true)
    (k_is_monster : PySem.W.keepIn K (.ref f10) = true)
    (a_Tick___init__ : PySem.W.findIn K (.ref tick) "__init__" = some (some (.ref f11)))
    (i_Tick___init__ : PySem.W.isFn K (.ref f11) = true)
    (l_Tick___init__ : K.lookup f11 = some ⟨oc11, od11, .func (PySem.W.fnOf "__init__" "Tick.__init__" (defArgs (inClass (topS 36) 0)) (defBody (inClass (topS 36) 0)) (defScope (inClass (topS 36) 0)) .none kV11 dc11 pm11 an11 cd11 ct11), sl11⟩)
    (c_Tick___init__ : PySem.W.codeIn K cd11 "Tick.__init__" = true)
    (k_Tick___init__ : PySem.W.keepIn K (.ref f11) = true)
    (a_Tick_at : PySem.W.findIn K (.ref tick) "at" = some (some (.ref f12)))
    (i_Tick_at : PySem.W.isFn K (.ref f12) = true)
    (l_Tick_at : K.lookup f12 = some ⟨oc12, od12, .func (PySem.W.fnOf "at" "Tick.at" (defArgs (inClass (topS 36) 1)) (defBody (inClass (topS 36) 1)) (defScope (inClass (topS 36) 1)) .none kV12 dc12 pm12 an12 cd12 ct12), sl12⟩)
    (c_Tick_at : PySem.W.codeIn K cd12 "Tick.at" = true)
    (k_Tick_at : PySem.W.keepIn K (.ref f12) = true)
    (a_Tick_put : PySem.W.findIn K (.ref tick) "put" = some (some (.ref f13)))
    (i_Tick_put : PySem.W.isFn K (.ref f13) = true)
    (l_Tick_put : K.lookup f13 = some ⟨oc13, od13, .func (PySem.W.fnOf "put" "Tick.put" (defArgs (inClass (topS 36) 2)) (defBody (inClass (topS 36) 2)) (defScope (inClass (topS 36) 2)) .none kV13 dc13 pm13 an13 cd13 ct13), sl13⟩)
    (c_Tick_put : PySem.W.codeIn K cd13 "Tick.put" = true)
    (k_Tick_put : PySem.W.keepIn K (.ref f13) = true)
    (a_Tick_arrive : PySem.W.findIn K (.ref tick) "arrive" = some (some (.ref f14)))
    (i_Tick_arrive : PySem.W.isFn K (.ref f14) = true)
    (l_Tick_arrive : K.lookup f14 = some ⟨oc14, od14, .func (PySem.W.fnOf "arrive" "Tick.arrive" (defArgs (inClass (topS 36) 3)) (defBody (inClass (topS 36) 3)) (defScope (inClass (topS 36) 3)) .none kV14 dc14 pm14 an14 cd14 ct14), sl14⟩)
    (c_Tick_arrive : PySem.W.codeIn K cd14 "Tick.arrive" = true)
    (k_Tick_arrive : PySem.W.keepIn K (.ref f14) = true)
    (a_Tick_go : PySem.W.findIn K (.ref tick) "go" = some (some (.ref f15)))
    (i_Tick_go : PySem.W.isFn K (.ref f15) = true)
    (l_Tick_go : K.lookup f15 = some ⟨oc15, od15, .func (PySem.W.fnOf "go" "Tick.go" (defArgs (inClass (topS 36) 4)) (defBody (inClass (topS 36) 4)) (defScope (inClass (topS 36) 4)) .none kV15 dc15 pm15 an15 cd15 ct15), sl15⟩)
    (c_Tick_go : PySem.W.codeIn K cd15 "Tick.go" = true)
    (k_Tick_go : PySem.W.keepIn K (.ref f15) = true)
    (a_Tick_have_gems : PySem.W.findIn K (.ref tick) "have_gems" = some (some (.ref f16)))
    (i_Tick_have_gems : PySem.W.isFn K (.ref f16) = true)
    (l_Tick_have_gems : K.lookup f16 = some ⟨oc16, od16, .func (PySem.W.fnOf "have_gems" "Tick.have_gems" (defArgs (inClass (topS 36) 5)) (defBody (inClass (topS 36) 5)) (defScope (inClass (topS 36) 5)) .none kV16 dc16 pm16 an16 cd16 ct16), sl16⟩)
    (c_Tick_have_gems : PySem.W.codeIn K cd16 "Tick.have_gems" = true)
    (k_Tick_have_gems : PySem.W.keepIn K (.ref f16) = true)
    (a_Tick_push : PySem.W.findIn K (.ref tick) "push" = some (some (.ref f17)))
    (i_Tick_push : PySem.W.isFn K (.ref f17) = true)
    (l_Tick_push : K.lookup f17 = some ⟨oc17, od17, .func (PySem.W.fnOf "push" "Tick.push" (defArgs (inClass (topS 36) 6)) (defBody (inClass (topS 36) 6)) (defScope (inClass (topS 36) 6)) .none kV17 dc17 pm17 an17 cd17 ct17), sl17⟩)
    (c_Tick_push : PySem.W.codeIn K cd17 "Tick.push" = true)
    (k_Tick_push : PySem.W.keepIn K (.ref f17) = true)
    (a_Tick_play : PySem.W.findIn K (.ref tick) "play" = some (some (.ref f18)))
    (i_Tick_play : PySem.W.isFn K (.ref f18) = true)
    (l_Tick_play : K.lookup f18 = some ⟨oc18, od18, .func (PySem.W.fnOf "play" "Tick.play" (defArgs (inClass (topS 36) 7)) (defBody (inClass (topS 36) 7)) (defScope (inClass (topS 36) 7)) .none kV18 dc18 pm18 an18 cd18 ct18), sl18⟩)
    (c_Tick_play : PySem.W.codeIn K cd18 "Tick.play" = true)
    (k_Tick_play : PySem.W.keepIn K (.ref f18) = true)
    (a_Tick_roll : PySem.W.findIn K (.ref tick) "roll" = some (some (.ref f19)))
    (i_Tick_roll : PySem.W.isFn K (.ref f19) = true)
    (l_Tick_roll : K.lookup f19 = some ⟨oc19, od19, .func (PySem.W.fnOf "roll" "Tick.roll" (defArgs (inClass (topS 36) 8)) (defBody (inClass (topS 36) 8)) (defScope (inClass (topS 36) 8)) .none kV19 dc19 pm19 an19 cd19 ct19), sl19⟩)
    (c_Tick_roll : PySem.W.codeIn K cd19 "Tick.roll" = true)
    (k_Tick_roll : PySem.W.keepIn K (.ref f19) = true)
    (a_Tick_fall : PySem.W.findIn K (.ref tick) "fall" = some (some (.ref f20)))
    (i_Tick_fall : PySem.W.isFn K (.ref f20) = true)
    (l_Tick_fall : K.lookup f20 = some ⟨oc20, od20, .func (PySem.W.fnOf "fall" "Tick.fall" (defArgs (inClass (topS 36) 9)) (defBody (inClass (topS 36) 9)) (defScope (inClass (topS 36) 9)) .none kV20 dc20 pm20 an20 cd20 ct20), sl20⟩)
    (c_Tick_fall : PySem.W.codeIn K cd20 "Tick.fall" = true)
    (k_Tick_fall : PySem.W.keepIn K (.ref f20) = true)
    (a_Tick_walk : PySem.W.findIn K (.ref tick) "walk" = some (some (.ref f21)))
    (i_Tick_walk : PySem.W.isFn K (.ref f21) = true)
    (l_Tick_walk : K.lookup f21 = some ⟨oc21, od21, .func (PySem.W.fnOf "walk" "Tick.walk" (defArgs (inClass (topS 36) 10)) (defBody (inClass (topS 36) 10)) (defScope (inClass (topS 36) 10)) .none kV21 dc21 pm21 an21 cd21 ct21), sl21⟩)
    (c_Tick_walk : PySem.W.codeIn K cd21 "Tick.walk" = true)
    (k_Tick_walk : PySem.W.keepIn K (.ref f21) = true)
    (a_Tick_turn : PySem.W.findIn K (.ref tick) "turn" = some (some (.ref f22)))
    (i_Tick_turn : PySem.W.isFn K (.ref f22) = true)
    (l_Tick_turn : K.lookup f22 = some ⟨oc22, od22, .func (PySem.W.fnOf "turn" "Tick.turn" (defArgs (inClass (topS 36) 11)) (defBody (inClass (topS 36) 11)) (defScope (inClass (topS 36) 11)) .none kV22 dc22 pm22 an22 cd22 ct22), sl22⟩)
    (c_Tick_turn : PySem.W.codeIn K cd22 "Tick.turn" = true)
    (k_Tick_turn : PySem.W.keepIn K (.ref f22) = true)
    (a_ticked : PySem.W.nsIn K mainGlobals "ticked" = some (some (.ref f23)))
    (l_ticked : K.lookup f23 = some ⟨oc23, od23, .func (PySem.W.fnOf "ticked" "ticked" (defArgs (topS 37)) (defBody (topS 37)) (defScope (topS 37)) .none kV23 dc23 pm23 an23 cd23 ct23), sl23⟩)
    (c_ticked : PySem.W.codeIn K cd23 "ticked" = true)
    (k_ticked : PySem.W.keepIn K (.ref f23) = true)
    (a_Game___init__ : PySem.W.findIn K (.ref game) "__init__" = some (some (.ref f24)))
    (i_Game___init__ : PySem.W.isFn K (.ref f24) = true)
    (l_Game___init__ : K.lookup f24 = some ⟨oc24, od24, .func (PySem.W.fnOf "__init__" "Game.__init__" (defArgs (inClass (topS 39) 0)) (defBody (inClass (topS 39) 0)) (defScope (inClass (topS 39) 0)) .none kV24 dc24 pm24 an24 cd24 ct24), sl24⟩)
    (c_Game___init__ : PySem.W.codeIn K cd24 "Game.__init__" = true)
    (k_Game___init__ : PySem.W.keepIn K (.ref f24) = true)
    (a_Game_now : PySem.W.findIn K (.ref game) "now" = some (some (.ref f25)))
    (i_Game_now : PySem.W.isFn K (.ref f25) = true)
    (l_Game_now : K.lookup f25 = some ⟨oc25, od25, .func (PySem.W.fnOf "now" "Game.now" (defArgs (inClass (topS 39) 1)) (defBody (inClass (topS 39) 1)) (defScope (inClass (topS 39) 1)) .none kV25 dc25 pm25 an25 cd25 ct25), sl25⟩)
    (c_Game_now : PySem.W.codeIn K cd25 "Game.now" = true)
    (k_Game_now : PySem.W.keepIn K (.ref f25) = true)
    (a_Game_many : PySem.W.findIn K (.ref game) "many" = some (some (.ref f26)))
    (i_Game_many : PySem.W.isFn K (.ref f26) = true)
    (l_Game_many : K.lookup f26 = some ⟨oc26, od26, .func (PySem.W.fnOf "many" "Game.many" (defArgs (inClass (topS 39) 2)) (defBody (inClass (topS 39) 2)) (defScope (inClass (topS 39) 2)) .none kV26 dc26 pm26 an26 cd26 ct26), sl26⟩)
    (c_Game_many : PySem.W.codeIn K cd26 "Game.many" = true)
    (k_Game_many : PySem.W.keepIn K (.ref f26) = true)
    (a_Game_goes_on : PySem.W.findIn K (.ref game) "goes_on" = some (some (.ref f27)))
    (i_Game_goes_on : PySem.W.isFn K (.ref f27) = true)
    (l_Game_goes_on : K.lookup f27 = some ⟨oc27, od27, .func (PySem.W.fnOf "goes_on" "Game.goes_on" (defArgs (inClass (topS 39) 3)) (defBody (inClass (topS 39) 3)) (defScope (inClass (topS 39) 3)) .none kV27 dc27 pm27 an27 cd27 ct27), sl27⟩)
    (c_Game_goes_on : PySem.W.codeIn K cd27 "Game.goes_on" = true)
    (k_Game_goes_on : PySem.W.keepIn K (.ref f27) = true)
    (a_Game_stood : PySem.W.findIn K (.ref game) "stood" = some (some (.ref f28)))
    (i_Game_stood : PySem.W.isFn K (.ref f28) = true)
    (l_Game_stood : K.lookup f28 = some ⟨oc28, od28, .func (PySem.W.fnOf "stood" "Game.stood" (defArgs (inClass (topS 39) 4)) (defBody (inClass (topS 39) 4)) (defScope (inClass (topS 39) 4)) .none kV28 dc28 pm28 an28 cd28 ct28), sl28⟩)
    (c_Game_stood : PySem.W.codeIn K cd28 "Game.stood" = true)
    (k_Game_stood : PySem.W.keepIn K (.ref f28) = true)
    (a_Game_stands : PySem.W.findIn K (.ref game) "stands" = some (some (.ref f29)))
    (i_Game_stands : PySem.W.isFn K (.ref f29) = true)
    (l_Game_stands : K.lookup f29 = some ⟨oc29, od29, .func (PySem.W.fnOf "stands" "Game.stands" (defArgs (inClass (topS 39) 5)) (defBody (inClass (topS 39) 5)) (defScope (inClass (topS 39) 5)) .none kV29 dc29 pm29 an29 cd29 ct29), sl29⟩)
    (c_Game_stands : PySem.W.codeIn K cd29 "Game.stands" = true)
    (k_Game_stands : PySem.W.keepIn K (.ref f29) = true)
    (a_Game_tick : PySem.W.findIn K (.ref game) "tick" = some (some (.ref f30)))
    (i_Game_tick : PySem.W.isFn K (.ref f30) = true)
    (l_Game_tick : K.lookup f30 = some ⟨oc30, od30, .func (PySem.W.fnOf "tick" "Game.tick" (defArgs (inClass (topS 39) 6)) (defBody (inClass (topS 39) 6)) (defScope (inClass (topS 39) 6)) .none kV30 dc30 pm30 an30 cd30 ct30), sl30⟩)
    (c_Game_tick : PySem.W.codeIn K cd30 "Game.tick" = true)
    (k_Game_tick : PySem.W.keepIn K (.ref f30) = true)
    (a_Game_many_due : PySem.W.findIn K (.ref game) "many_due" = some (some (.ref f31)))
    (i_Game_many_due : PySem.W.isFn K (.ref f31) = true)
    (l_Game_many_due : K.lookup f31 = some ⟨oc31, od31, .func (PySem.W.fnOf "many_due" "Game.many_due" (defArgs (inClass (topS 39) 7)) (defBody (inClass (topS 39) 7)) (defScope (inClass (topS 39) 7)) .none kV31 dc31 pm31 an31 cd31 ct31), sl31⟩)
    (c_Game_many_due : PySem.W.codeIn K cd31 "Game.many_due" = true)
    (k_Game_many_due : PySem.W.keepIn K (.ref f31) = true)
    (a_Game_frame : PySem.W.findIn K (.ref game) "frame" = some (some (.ref f32)))
    (i_Game_frame : PySem.W.isFn K (.ref f32) = true)
    (l_Game_frame : K.lookup f32 = some ⟨oc32, od32, .func (PySem.W.fnOf "frame" "Game.frame" (defArgs (inClass (topS 39) 8)) (defBody (inClass (topS 39) 8)) (defScope (inClass (topS 39) 8)) .none kV32 dc32 pm32 an32 cd32 ct32), sl32⟩)
    (c_Game_frame : PySem.W.codeIn K cd32 "Game.frame" = true)
    (k_Game_frame : PySem.W.keepIn K (.ref f32) = true)
    (a_Game_take_length : PySem.W.findIn K (.ref game) "take_length" = some (some (.ref f33)))
    (i_Game_take_length : PySem.W.isFn K (.ref f33) = true)
    (l_Game_take_length : K.lookup f33 = some ⟨oc33, od33, .func (PySem.W.fnOf "take_length" "Game.take_length" (defArgs (inClass (topS 39) 9)) (defBody (inClass (topS 39) 9)) (defScope (inClass (topS 39) 9)) .none kV33 dc33 pm33 an33 cd33 ct33), sl33⟩)
    (c_Game_take_length : PySem.W.codeIn K cd33 "Game.take_length" = true)
    (k_Game_take_length : PySem.W.keepIn K (.ref f33) = true)
    (a_Game_back : PySem.W.findIn K (.ref game) "back" = some (some (.ref f34)))
    (i_Game_back : PySem.W.isFn K (.ref f34) = true)
    (l_Game_back : K.lookup f34 = some ⟨oc34, od34, .func (PySem.W.fnOf "back" "Game.back" (defArgs (inClass (topS 39) 10)) (defBody (inClass (topS 39) 10)) (defScope (inClass (topS 39) 10)) .none kV34 dc34 pm34 an34 cd34 ct34), sl34⟩)
    (c_Game_back : PySem.W.codeIn K cd34 "Game.back" = true)
    (k_Game_back : PySem.W.keepIn K (.ref f34) = true)
    (a_Game_copied : PySem.W.findIn K (.ref game) "copied" = some (some (.ref f35)))
    (i_Game_copied : PySem.W.isFn K (.ref f35) = true)
    (l_Game_copied : K.lookup f35 = some ⟨oc35, od35, .func (PySem.W.fnOf "copied" "Game.copied" (defArgs (inClass (topS 39) 11)) (defBody (inClass (topS 39) 11)) (defScope (inClass (topS 39) 11)) .none kV35 dc35 pm35 an35 cd35 ct35), sl35⟩)
    (c_Game_copied : PySem.W.codeIn K cd35 "Game.copied" = true)
    (k_Game_copied : PySem.W.keepIn K (.ref f35) = true)
    (a_Game_parts_from : PySem.W.findIn K (.ref game) "parts_from" = some (some (.ref f36)))
    (i_Game_parts_from : PySem.W.isFn K (.ref f36) = true)
    (l_Game_parts_from : K.lookup f36 = some ⟨oc36, od36, .func (PySem.W.fnOf "parts_from" "Game.parts_from" (defArgs (inClass (topS 39) 12)) (defBody (inClass (topS 39) 12)) (defScope (inClass (topS 39) 12)) .none kV36 dc36 pm36 an36 cd36 ct36), sl36⟩)
    (c_Game_parts_from : PySem.W.codeIn K cd36 "Game.parts_from" = true)
    (k_Game_parts_from : PySem.W.keepIn K (.ref f36) = true)
    (a_Refused___init__ : PySem.W.findIn K (.ref refd) "__init__" = some (some (.ref refI)))
    (t_Refused___init__ : PySem.W.typeIn K (.ref refI) = some (.type "function"))
    (l_Refused___init__ : K.lookup refI = some ⟨oc37, od37, .func (PySem.W.fnOf "__init__" "Refused.__init__" (defArgs (inClass (topS 56) 0)) (defBody (inClass (topS 56) 0)) (defScope (inClass (topS 56) 0)) .none kV37 dc37 pm37 an37 cd37 ct37), sl37⟩)
    (c_Refused___init__ : PySem.W.codeIn K cd37 "Refused.__init__" = true)
    (k_Refused___init__ : PySem.W.keepIn K (.ref refI) = true)
    (a_refuse : PySem.W.nsIn K mainGlobals "refuse" = some (some (.ref f38)))
    (l_refuse : K.lookup f38 = some ⟨oc38, od38, .func (PySem.W.fnOf "refuse" "refuse" (defArgs (topS 57)) (defBody (topS 57)) (defScope (topS 57)) .none kV38 dc38 pm38 an38 cd38 ct38), sl38⟩)
    (c_refuse : PySem.W.codeIn K cd38 "refuse" = true)
    (k_refuse : PySem.W.keepIn K (.ref f38) = true)
    (a_counted : PySem.W.nsIn K mainGlobals "counted" = some (some (.ref f39)))
    (l_counted : K.lookup f39 = some ⟨oc39, od39, .func (PySem.W.fnOf "counted" "counted" (defArgs (topS 58)) (defBody (topS 58)) (defScope (topS 58)) .none kV39 dc39 pm39 an39 cd39 ct39), sl39⟩)
    (c_counted : PySem.W.codeIn K cd39 "counted" = true)
    (k_counted : PySem.W.keepIn K (.ref f39) = true)
    (a_Desk___init__ : PySem.W.findIn K (.ref desk) "__init__" = some (some (.ref f40)))
    (i_Desk___init__ : PySem.W.isFn K (.ref f40) = true)
    (l_Desk___init__ : K.lookup f40 = some ⟨oc40, od40, .func (PySem.W.fnOf "__init__" "Desk.__init__" (defArgs (inClass (topS 59) 0)) (defBody (inClass (topS 59) 0)) (defScope (inClass (topS 59) 0)) .none kV40 dc40 pm40 an40 cd40 ct40), sl40⟩)
    (c_Desk___init__ : PySem.W.codeIn K cd40 "Desk.__init__" = true)
    (k_Desk___init__ : PySem.W.keepIn K (.ref f40) = true)
    (a_Desk_cave : PySem.W.findIn K (.ref desk) "cave" = some (some (.ref f41)))
    (i_Desk_cave : PySem.W.isFn K (.ref f41) = true)
    (l_Desk_cave : K.lookup f41 = some ⟨oc41, od41, .func (PySem.W.fnOf "cave" "Desk.cave" (defArgs (inClass (topS 59) 1)) (defBody (inClass (topS 59) 1)) (defScope (inClass (topS 59) 1)) .none kV41 dc41 pm41 an41 cd41 ct41), sl41⟩)
    (c_Desk_cave : PySem.W.codeIn K cd41 "Desk.cave" = true)
    (k_Desk_cave : PySem.W.keepIn K (.ref f41) = true)
    (a_Desk_hold : PySem.W.findIn K (.ref desk) "hold" = some (some (.ref f42)))
    (i_Desk_hold : PySem.W.isFn K (.ref f42) = true)
    (l_Desk_hold : K.lookup f42 = some ⟨oc42, od42, .func (PySem.W.fnOf "hold" "Desk.hold" (defArgs (inClass (topS 59) 2)) (defBody (inClass (topS 59) 2)) (defScope (inClass (topS 59) 2)) .none kV42 dc42 pm42 an42 cd42 ct42), sl42⟩)
    (c_Desk_hold : PySem.W.codeIn K cd42 "Desk.hold" = true)
    (k_Desk_hold : PySem.W.keepIn K (.ref f42) = true)
    (a_Desk_need_ticks : PySem.W.findIn K (.ref desk) "need_ticks" = some (some (.ref f43)))
    (i_Desk_need_ticks : PySem.W.isFn K (.ref f43) = true)
    (l_Desk_need_ticks : K.lookup f43 = some ⟨oc43, od43, .func (PySem.W.fnOf "need_ticks" "Desk.need_ticks" (defArgs (inClass (topS 59) 3)) (defBody (inClass (topS 59) 3)) (defScope (inClass (topS 59) 3)) .none kV43 dc43 pm43 an43 cd43 ct43), sl43⟩)
    (c_Desk_need_ticks : PySem.W.codeIn K cd43 "Desk.need_ticks" = true)
    (k_Desk_need_ticks : PySem.W.keepIn K (.ref f43) = true)
    (a_Desk_frame : PySem.W.findIn K (.ref desk) "frame" = some (some (.ref f44)))
    (i_Desk_frame : PySem.W.isFn K (.ref f44) = true)
    (l_Desk_frame : K.lookup f44 = some ⟨oc44, od44, .func (PySem.W.fnOf "frame" "Desk.frame" (defArgs (inClass (topS 59) 4)) (defBody (inClass (topS 59) 4)) (defScope (inClass (topS 59) 4)) .none kV44 dc44 pm44 an44 cd44 ct44), sl44⟩)
    (c_Desk_frame : PySem.W.codeIn K cd44 "Desk.frame" = true)
    (k_Desk_frame : PySem.W.keepIn K (.ref f44) = true)
    (a_Desk_speed : PySem.W.findIn K (.ref desk) "speed" = some (some (.ref f45)))
    (i_Desk_speed : PySem.W.isFn K (.ref f45) = true)
    (l_Desk_speed : K.lookup f45 = some ⟨oc45, od45, .func (PySem.W.fnOf "speed" "Desk.speed" (defArgs (inClass (topS 59) 5)) (defBody (inClass (topS 59) 5)) (defScope (inClass (topS 59) 5)) .none kV45 dc45 pm45 an45 cd45 ct45), sl45⟩)
    (c_Desk_speed : PySem.W.codeIn K cd45 "Desk.speed" = true)
    (k_Desk_speed : PySem.W.keepIn K (.ref f45) = true)
    (a_Desk_save : PySem.W.findIn K (.ref desk) "save" = some (some (.ref f46)))
    (i_Desk_save : PySem.W.isFn K (.ref f46) = true)
    (l_Desk_save : K.lookup f46 = some ⟨oc46, od46, .func (PySem.W.fnOf "save" "Desk.save" (defArgs (inClass (topS 59) 6)) (defBody (inClass (topS 59) 6)) (defScope (inClass (topS 59) 6)) .none kV46 dc46 pm46 an46 cd46 ct46), sl46⟩)
    (c_Desk_save : PySem.W.codeIn K cd46 "Desk.save" = true)
    (k_Desk_save : PySem.W.keepIn K (.ref f46) = true)
    (a_Desk_load : PySem.W.findIn K (.ref desk) "load" = some (some (.ref f47)))
    (i_Desk_load : PySem.W.isFn K (.ref f47) = true)
    (l_Desk_load : K.lookup f47 = some ⟨oc47, od47, .func (PySem.W.fnOf "load" "Desk.load" (defArgs (inClass (topS 59) 7)) (defBody (inClass (topS 59) 7)) (defScope (inClass (topS 59) 7)) .none kV47 dc47 pm47 an47 cd47 ct47), sl47⟩)
    (c_Desk_load : PySem.W.codeIn K cd47 "Desk.load" = true)
    (k_Desk_load : PySem.W.keepIn K (.ref f47) = true)
    (a_Desk_place : PySem.W.findIn K (.ref desk) "place" = some (some (.ref f48)))
    (i_Desk_place : PySem.W.isFn K (.ref f48) = true)
    (l_Desk_place : K.lookup f48 = some ⟨oc48, od48, .func (PySem.W.fnOf "place" "Desk.place" (defArgs (inClass (topS 59) 8)) (defBody (inClass (topS 59) 8)) (defScope (inClass (topS 59) 8)) .none kV48 dc48 pm48 an48 cd48 ct48), sl48⟩)
    (c_Desk_place : PySem.W.codeIn K cd48 "Desk.place" = true)
    (k_Desk_place : PySem.W.keepIn K (.ref f48) = true)
    (a_Desk_seen : PySem.W.findIn K (.ref desk) "seen" = some (some (.ref f49)))
    (i_Desk_seen : PySem.W.isFn K (.ref f49) = true)
    (l_Desk_seen : K.lookup f49 = some ⟨oc49, od49, .func (PySem.W.fnOf "seen" "Desk.seen" (defArgs (inClass (topS 59) 9)) (defBody (inClass (topS 59) 9)) (defScope (inClass (topS 59) 9)) .none kV49 dc49 pm49 an49 cd49 ct49), sl49⟩)
    (c_Desk_seen : PySem.W.codeIn K cd49 "Desk.seen" = true)
    (k_Desk_seen : PySem.W.keepIn K (.ref f49) = true)
    (a_Desk_back : PySem.W.findIn K (.ref desk) "back" = some (some (.ref f50)))
    (i_Desk_back : PySem.W.isFn K (.ref f50) = true)
    (l_Desk_back : K.lookup f50 = some ⟨oc50, od50, .func (PySem.W.fnOf "back" "Desk.back" (defArgs (inClass (topS 59) 10)) (defBody (inClass (topS 59) 10)) (defScope (inClass (topS 59) 10)) .none kV50 dc50 pm50 an50 cd50 ct50), sl50⟩)
    (c_Desk_back : PySem.W.codeIn K cd50 "Desk.back" = true)
    (k_Desk_back : PySem.W.keepIn K (.ref f50) = true)
    (a_Desk_play : PySem.W.findIn K (.ref desk) "play" = some (some (.ref f51)))
    (i_Desk_play : PySem.W.isFn K (.ref f51) = true)
    (l_Desk_play : K.lookup f51 = some ⟨oc51, od51, .func (PySem.W.fnOf "play" "Desk.play" (defArgs (inClass (topS 59) 11)) (defBody (inClass (topS 59) 11)) (defScope (inClass (topS 59) 11)) .none kV51 dc51 pm51 an51 cd51 ct51), sl51⟩)
    (c_Desk_play : PySem.W.codeIn K cd51 "Desk.play" = true)
    (k_Desk_play : PySem.W.keepIn K (.ref f51) = true)
    (a_Desk_differ : PySem.W.findIn K (.ref desk) "differ" = some (some (.ref f52)))
    (i_Desk_differ : PySem.W.isFn K (.ref f52) = true)
    (l_Desk_differ : K.lookup f52 = some ⟨oc52, od52, .func (PySem.W.fnOf "differ" "Desk.differ" (defArgs (inClass (topS 59) 12)) (defBody (inClass (topS 59) 12)) (defScope (inClass (topS 59) 12)) .none kV52 dc52 pm52 an52 cd52 ct52), sl52⟩)
    (c_Desk_differ : PySem.W.codeIn K cd52 "Desk.differ" = true)
    (k_Desk_differ : PySem.W.keepIn K (.ref f52) = true)
    (a_Desk_of_one : PySem.W.findIn K (.ref desk) "of_one" = some (some (.ref f53)))
    (i_Desk_of_one : PySem.W.isFn K (.ref f53) = true)
    (l_Desk_of_one : K.lookup f53 = some ⟨oc53, od53, .func (PySem.W.fnOf "of_one" "Desk.of_one" (defArgs (inClass (topS 59) 13)) (defBody (inClass (topS 59) 13)) (defScope (inClass (topS 59) 13)) .none kV53 dc53 pm53 an53 cd53 ct53), sl53⟩)
    (c_Desk_of_one : PySem.W.codeIn K cd53 "Desk.of_one" = true)
    (k_Desk_of_one : PySem.W.keepIn K (.ref f53) = true)
    (a_Desk_done : PySem.W.findIn K (.ref desk) "done" = some (some (.ref f54)))
    (i_Desk_done : PySem.W.isFn K (.ref f54) = true)
    (l_Desk_done : K.lookup f54 = some ⟨oc54, od54, .func (PySem.W.fnOf "done" "Desk.done" (defArgs (inClass (topS 59) 14)) (defBody (inClass (topS 59) 14)) (defScope (inClass (topS 59) 14)) .none kV54 dc54 pm54 an54 cd54 ct54), sl54⟩)
    (c_Desk_done : PySem.W.codeIn K cd54 "Desk.done" = true)
    (k_Desk_done : PySem.W.keepIn K (.ref f54) = true)
    (a_Desk_answer : PySem.W.findIn K (.ref desk) "answer" = some (some (.ref f55)))
    (i_Desk_answer : PySem.W.isFn K (.ref f55) = true)
    (l_Desk_answer : K.lookup f55 = some ⟨oc55, od55, .func (PySem.W.fnOf "answer" "Desk.answer" (defArgs (inClass (topS 59) 15)) (defBody (inClass (topS 59) 15)) (defScope (inClass (topS 59) 15)) .none kV55 dc55 pm55 an55 cd55 ct55), sl55⟩)
    (c_Desk_answer : PySem.W.codeIn K cd55 "Desk.answer" = true)
    (k_Desk_answer : PySem.W.keepIn K (.ref f55) = true)
    (a_answers : PySem.W.nsIn K mainGlobals "answers" = some (some (.ref f56)))
    (l_answers : K.lookup f56 = some ⟨oc56, od56, .func (PySem.W.fnOf "answers" "answers" (defArgs (topS 63)) (defBody (topS 63)) (defScope (topS 63)) .none kV56 dc56 pm56 an56 cd56 ct56), sl56⟩)
    (c_answers : PySem.W.codeIn K cd56 "answers" = true)
    (k_answers : PySem.W.keepIn K (.ref f56) = true) :
    ∃ fd : FuncData, (∀ (s : Shared) (us : List Value), us.length = (["calls"] : List Str).length → BindsTo s fd ⟨us, []⟩ ((["calls"] : List Str).zip us)) ∧ ∀ base : Heap, K.In base → base.Ns mainGlobals mg → FnOk P w K mg base CX0 14 fa fd ["calls"] (spAnswers K) := by
  have e := hfa.symm.trans (PySem.W.mg_of X G a_answers)
  cases e
  have T : Txt K mg ⟨cave, tick, game, refd, desk, bytes, loose, falling, lyingT, ways, w0, w1, w2, w3, down, manyN, withR, refI⟩ := {
    i_NOTHING := ⟨_, PySem.W.mg_of X G n_NOTHING⟩,
    i_EARTH := ⟨_, PySem.W.mg_of X G n_EARTH⟩,
    i_WALL := ⟨_, PySem.W.mg_of X G n_WALL⟩,
    i_STONE := ⟨_, PySem.W.mg_of X G n_STONE⟩,
    i_FALLING_STONE := ⟨_, PySem.W.mg_of X G n_FALLING_STONE⟩,
    i_GEM := ⟨_, PySem.W.mg_of X G n_GEM⟩,
    i_FALLING_GEM := ⟨_, PySem.W.mg_of X G n_FALLING_GEM⟩,
    i_PLAYER := ⟨_, PySem.W.mg_of X G n_PLAYER⟩,
    i_FIRST_MONSTER := ⟨_, PySem.W.mg_of X G n_FIRST_MONSTER⟩,
    i_LAST_MONSTER := ⟨_, PySem.W.mg_of X G n_LAST_MONSTER⟩,
    i_EXIT := ⟨_, PySem.W.mg_of X G n_EXIT⟩,
    i_LINE_END := ⟨_, PySem.W.mg_of X G n_LINE_END⟩,
    i_MOST_WIDE := ⟨_, PySem.W.mg_of X G n_MOST_WIDE⟩,
    i_MOST_HIGH := ⟨_, PySem.W.mg_of X G n_MOST_HIGH⟩,
    i_GOES_ON := ⟨_, PySem.W.mg_of X G n_GOES_ON⟩,
    i_WON := ⟨_, PySem.W.mg_of X G n_WON⟩,
    i_LOST := ⟨_, PySem.W.mg_of X G n_LOST⟩,
    i_FOR_GEM := ⟨_, PySem.W.mg_of X G n_FOR_GEM⟩,
    i_FOR_MONSTER := ⟨_, PySem.W.mg_of X G n_FOR_MONSTER⟩,
    i_FOR_EXIT := ⟨_, PySem.W.mg_of X G n_FOR_EXIT⟩,
    i_NOT_AS_TOLD := ⟨_, PySem.W.mg_of X G n_NOT_AS_TOLD⟩,
    i_NONE_THERE := ⟨_, PySem.W.mg_of X G n_NONE_THERE⟩,
    i_TOO_MANY := ⟨_, PySem.W.mg_of X G n_TOO_MANY⟩,
    i_ALIKE := ⟨_, PySem.W.mg_of X G n_ALIKE⟩,
    i_FAULT := ⟨_, PySem.W.mg_of X G n_FAULT⟩,
    i_LONGEST := ⟨_, PySem.W.mg_of X G n_LONGEST⟩,
    i_MOST_BYTE := ⟨_, PySem.W.mg_of X G n_MOST_BYTE⟩,
    i_MOST_KEY := ⟨_, PySem.W.mg_of X G n_MOST_KEY⟩,
    i_MOST_PARTS := ⟨_, PySem.W.mg_of X G n_MOST_PARTS⟩,
    i_MOST_TICKS := ⟨_, PySem.W.mg_of X G n_MOST_TICKS⟩,
    i_FIRST_LENGTH := ⟨_, PySem.W.mg_of X G n_FIRST_LENGTH⟩,
    i_MOST_LENGTH := ⟨_, PySem.W.mg_of X G n_MOST_LENGTH⟩,
    i_MOST_KEPT := ⟨_, PySem.W.mg_of X G n_MOST_KEPT⟩,
    i_MOST_PRESSED := ⟨_, PySem.W.mg_of X G n_MOST_PRESSED⟩,
    i_SORTS := ⟨_, PySem.W.mg_of X G n_SORTS⟩,
    g_BYTES := PySem.W.mg_of X G n_BYTES,
    t_BYTES := ⟨⟨_, _, _, l_BYTES, rfl, rfl, rfl, (by show 13 ≤ sizeLine; decide), (.cons ⟨_, rfl⟩ (.cons ⟨_, rfl⟩ (.cons ⟨_, rfl⟩ (.cons ⟨_, rfl⟩ (.cons ⟨_, rfl⟩ (.cons ⟨_, rfl⟩ (.cons ⟨_, rfl⟩ (.cons ⟨_, rfl⟩ (.cons ⟨_, rfl⟩ (.cons ⟨_, rfl⟩ (.cons ⟨_, rfl⟩ (.cons ⟨_, rfl⟩ (.cons ⟨_, rfl⟩ .nil)))))))))))))⟩⟩,
    g_LOOSE := PySem.W.mg_of X G n_LOOSE,
    t_LOOSE := ⟨⟨_, _, _, l_LOOSE, rfl, rfl, rfl, (by show 4 ≤ sizeLine; decide), (.cons ⟨_, rfl⟩ (.cons ⟨_, rfl⟩ (.cons ⟨_, rfl⟩ (.cons ⟨_, rfl⟩ .nil))))⟩⟩,
    g_FALLING := PySem.W.mg_of X G n_FALLING,
    t_FALLING := ⟨⟨_, _, _, l_FALLING, rfl, rfl, rfl, (by show 2 ≤ sizeLine; decide), (.cons ⟨_, rfl⟩ (.cons ⟨_, rfl⟩ .nil))⟩⟩,
    g_LYING := PySem.W.mg_of X G n_LYING,
    t_LYING := ⟨⟨_, _, _, l_LYING, rfl, rfl, rfl, (by show 2 ≤ sizeLine; decide), (.cons ⟨_, rfl⟩ (.cons ⟨_, rfl⟩ .nil))⟩⟩,
    g_WAYS := PySem.W.mg_of X G n_WAYS,
    t_WAYS := ⟨⟨_, _, _, l_WAYS, rfl, rfl, rfl, (by show 4 ≤ sizeLine; decide), (.cons rfl (.cons rfl (.cons rfl (.cons rfl .nil))))⟩⟩,
    g_DOWN := PySem.W.mg_of X G n_DOWN,
    t_DOWN := ⟨⟨_, _, _, l_DOWN, rfl, rfl, rfl, (by show 2 ≤ sizeLine; decide), (.cons ⟨_, rfl⟩ (.cons ⟨_, rfl⟩ .nil))⟩⟩,
    g_MANY_NUMBERS := PySem.W.mg_of X G n_MANY_NUMBERS,
    t_MANY_NUMBERS := ⟨⟨_, _, _, l_MANY_NUMBERS, rfl, rfl, rfl, (by show 14 ≤ sizeLine; decide), (.cons ⟨_, rfl⟩ (.cons ⟨_, rfl⟩ (.cons ⟨_, rfl⟩ (.cons ⟨_, rfl⟩ (.cons ⟨_, rfl⟩ (.cons ⟨_, rfl⟩ (.cons ⟨_, rfl⟩ (.cons ⟨_, rfl⟩ (.cons ⟨_, rfl⟩ (.cons ⟨_, rfl⟩ (.cons ⟨_, rfl⟩ (.cons ⟨_, rfl⟩ (.cons ⟨_, rfl⟩ (.cons ⟨_, rfl⟩ .nil))))))))))))))⟩⟩,
    g_WITH_ROW := PySem.W.mg_of X G n_WITH_ROW,
    t_WITH_ROW := ⟨⟨_, _, _, l_WITH_ROW, rfl, rfl, rfl, (by show 2 ≤ sizeLine; decide), (.cons ⟨_, rfl⟩ (.cons ⟨_, rfl⟩ .nil))⟩⟩,
    t_w0 := ⟨⟨_, _, _, l_w0, rfl, rfl, rfl, (by show 2 ≤ sizeLine; decide), (.cons ⟨_, rfl⟩ (.cons ⟨_, rfl⟩ .nil))⟩⟩,
    t_w1 := ⟨⟨_, _, _, l_w1, rfl, rfl, rfl, (by show 2 ≤ sizeLine; decide), (.cons ⟨_, rfl⟩ (.cons ⟨_, rfl⟩ .nil))⟩⟩,
    t_w2 := ⟨⟨_, _, _, l_w2, rfl, rfl, rfl, (by show 2 ≤ sizeLine; decide), (.cons ⟨_, rfl⟩ (.cons ⟨_, rfl⟩ .nil))⟩⟩,
    t_w3 := ⟨⟨_, _, _, l_w3, rfl, rfl, rfl, (by show 2 ≤ sizeLine; decide), (.cons ⟨_, rfl⟩ (.cons ⟨_, rfl⟩ .nil))⟩⟩,
    b_len := PySem.W.mg_none_of X G z_len,
    b_range := PySem.W.mg_none_of X G z_range,
    b_any := PySem.W.mg_none_of X G z_any,
    b_all := PySem.W.mg_none_of X G z_all,
    b_list := PySem.W.mg_none_of X G z_list,
    b_int := PySem.W.mg_none_of X G z_int,
    b_min := PySem.W.mg_none_of X G z_min,
    b_enumerate := PySem.W.mg_none_of X G z_enumerate,
    b_zip := PySem.W.mg_none_of X G z_zip,
    b_ValueError := PySem.W.mg_none_of X G z_ValueError,
    cCave := ⟨pg_Cave, hd_Cave, po_Cave, sa_Cave⟩,
    nCave_wide := f_Cave_wide,
    nCave_high := f_Cave_high,
    nCave_cells := f_Cave_cells,
    nCave_standing := f_Cave_standing,
    nCave_points := f_Cave_points,
    cTick := ⟨pg_Tick, hd_Tick, po_Tick, sa_Tick⟩,
    nTick_wide := f_Tick_wide,
    nTick_high := f_Tick_high,
    nTick_cells := f_Tick_cells,
    nTick_had := f_Tick_had,
    nTick_standing := f_Tick_standing,
    nTick_points := f_Tick_points,
    cGame := ⟨pg_Game, hd_Game, po_Game, sa_Game⟩,
    nGame_caves := f_Game_caves,
    nGame_pressed := f_Game_pressed,
    nGame_left := f_Game_left,
    nGame_length := f_Game_length,
    nGame_held := f_Game_held,
    cDesk := ⟨pg_Desk, hd_Desk, po_Desk, sa_Desk⟩,
    nDesk_game := f_Desk_game,
    nDesk_kept := f_Desk_kept,
    oex := ⟨⟨_, _, _, _, _, _, _, _, _, _, _, _, _, _, _, x_Refused, by decide +kernel⟩, sa_Refused, ex_Refused, ty_Refused, kc_Refused⟩,
    xf := ⟨ga_Refused, gg_Refused, ex_Refused, hd_Refused⟩,
    veI := ve,
    nRefused_number := nb_Refused,
    gRefused := PySem.W.mg_of X G n_Refused,
    iRefused := a_Refused___init__,
    tRefused := t_Refused___init__,
    eRefused := exm_self ex_Refused ic_Refused ty_Refused ss_Refused,
    d_Cave := ⟨_, _, PySem.W.mg_of X G n_Cave, ⟨mk_Cave, a_Cave___init__, i_Cave___init__, kc_Cave⟩, fun_mk (st := (inClass (topS 17) 0)) l_Cave___init__ c_Cave___init__ k_Cave___init__⟩,
    d_Cave_gems := ⟨_, _, ⟨a_Cave_gems, i_Cave_gems, k_Cave_gems⟩, fun_mk (st := (inClass (topS 17) 1)) l_Cave_gems c_Cave_gems k_Cave_gems⟩,
    d_Cave_written := ⟨_, _, ⟨a_Cave_written, i_Cave_written, k_Cave_written⟩, fun_mk (st := (inClass (topS 17) 2)) l_Cave_written c_Cave_written k_Cave_written⟩,
    d_Cave_is_like := ⟨_, _, ⟨a_Cave_is_like, i_Cave_is_like, k_Cave_is_like⟩, fun_mk (st := (inClass (topS 17) 3)) l_Cave_is_like c_Cave_is_like k_Cave_is_like⟩,
    d_rows_in := ⟨_, _, PySem.W.mg_of X G a_rows_in, k_rows_in, fun_mk (st := (topS 18)) l_rows_in c_rows_in k_rows_in⟩,
    d_fault_of := ⟨_, _, PySem.W.mg_of X G a_fault_of, k_fault_of, fun_mk (st := (topS 19)) l_fault_of c_fault_of k_fault_of⟩,
    d_cave_of := ⟨_, _, PySem.W.mg_of X G a_cave_of, k_cave_of, fun_mk (st := (topS 20)) l_cave_of c_cave_of k_cave_of⟩,
    d_first_cave := ⟨_, _, PySem.W.mg_of X G a_first_cave, k_first_cave, fun_mk (st := (topS 21)) l_first_cave c_first_cave k_first_cave⟩,
    d_fallen := ⟨_, _, PySem.W.mg_of X G a_fallen, k_fallen, fun_mk (st := (topS 33)) l_fallen c_fallen k_fallen⟩,
    d_lying := ⟨_, _, PySem.W.mg_of X G a_lying, k_lying, fun_mk (st := (topS 34)) l_lying c_lying k_lying⟩,
    d_is_monster := ⟨_, _, PySem.W.mg_of X G a_is_monster, k_is_monster, fun_mk (st := (topS 35)) l_is_monster c_is_monster k_is_monster⟩,
    d_Tick := ⟨_, _, PySem.W.mg_of X G n_Tick, ⟨mk_Tick, a_Tick___init__, i_Tick___init__, kc_Tick⟩, fun_mk (st := (inClass (topS 36) 0)) l_Tick___init__ c_Tick___init__ k_Tick___init__⟩,
    d_Tick_at := ⟨_, _, ⟨a_Tick_at, i_Tick_at, k_Tick_at⟩, fun_mk (st := (inClass (topS 36) 1)) l_Tick_at c_Tick_at k_Tick_at⟩,
    d_Tick_put := ⟨_, _, ⟨a_Tick_put, i_Tick_put, k_Tick_put⟩, fun_mk (st := (inClass (topS 36) 2)) l_Tick_put c_Tick_put k_Tick_put⟩,
    d_Tick_arrive := ⟨_, _, ⟨a_Tick_arrive, i_Tick_arrive, k_Tick_arrive⟩, fun_mk (st := (inClass (topS 36) 3)) l_Tick_arrive c_Tick_arrive k_Tick_arrive⟩,
    d_Tick_go := ⟨_, _, ⟨a_Tick_go, i_Tick_go, k_Tick_go⟩, fun_mk (st := (inClass (topS 36) 4)) l_Tick_go c_Tick_go k_Tick_go⟩,
    d_Tick_have_gems := ⟨_, _, ⟨a_Tick_have_gems, i_Tick_have_gems, k_Tick_have_gems⟩, fun_mk (st := (inClass (topS 36) 5)) l_Tick_have_gems c_Tick_have_gems k_Tick_have_gems⟩,
    d_Tick_push := ⟨_, _, ⟨a_Tick_push, i_Tick_push, k_Tick_push⟩, fun_mk (st := (inClass (topS 36) 6)) l_Tick_push c_Tick_push k_Tick_push⟩,
    d_Tick_play := ⟨_, _, ⟨a_Tick_play, i_Tick_play, k_Tick_play⟩, fun_mk (st := (inClass (topS 36) 7)) l_Tick_play c_Tick_play k_Tick_play⟩,
    d_Tick_roll := ⟨_, _, ⟨a_Tick_roll, i_Tick_roll, k_Tick_roll⟩, fun_mk (st := (inClass (topS 36) 8)) l_Tick_roll c_Tick_roll k_Tick_roll⟩,
    d_Tick_fall := ⟨_, _, ⟨a_Tick_fall, i_Tick_fall, k_Tick_fall⟩, fun_mk (st := (inClass (topS 36) 9)) l_Tick_fall c_Tick_fall k_Tick_fall⟩,
    d_Tick_walk := ⟨_, _, ⟨a_Tick_walk, i_Tick_walk, k_Tick_walk⟩, fun_mk (st := (inClass (topS 36) 10)) l_Tick_walk c_Tick_walk k_Tick_walk⟩,
    d_Tick_turn := ⟨_, _, ⟨a_Tick_turn, i_Tick_turn, k_Tick_turn⟩, fun_mk (st := (inClass (topS 36) 11)) l_Tick_turn c_Tick_turn k_Tick_turn⟩,
    d_ticked := ⟨_, _, PySem.W.mg_of X G a_ticked, k_ticked, fun_mk (st := (topS 37)) l_ticked c_ticked k_ticked⟩,
    d_Game := ⟨_, _, PySem.W.mg_of X G n_Game, ⟨mk_Game, a_Game___init__, i_Game___init__, kc_Game⟩, fun_mk (st := (inClass (topS 39) 0)) l_Game___init__ c_Game___init__ k_Game___init__⟩,
    d_Game_now := ⟨_, _, ⟨a_Game_now, i_Game_now, k_Game_now⟩, fun_mk (st := (inClass (topS 39) 1)) l_Game_now c_Game_now k_Game_now⟩,
    d_Game_many := ⟨_, _, ⟨a_Game_many, i_Game_many, k_Game_many⟩, fun_mk (st := (inClass (topS 39) 2)) l_Game_many c_Game_many k_Game_many⟩,
    d_Game_goes_on := ⟨_, _, ⟨a_Game_goes_on, i_Game_goes_on, k_Game_goes_on⟩, fun_mk (st := (inClass (topS 39) 3)) l_Game_goes_on c_Game_goes_on k_Game_goes_on⟩,
    d_Game_stood := ⟨_, _, ⟨a_Game_stood, i_Game_stood, k_Game_stood⟩, fun_mk (st := (inClass (topS 39) 4)) l_Game_stood c_Game_stood k_Game_stood⟩,
    d_Game_stands := ⟨_, _, ⟨a_Game_stands, i_Game_stands, k_Game_stands⟩, fun_mk (st := (inClass (topS 39) 5)) l_Game_stands c_Game_stands k_Game_stands⟩,
    d_Game_tick := ⟨_, _, ⟨a_Game_tick, i_Game_tick, k_Game_tick⟩, fun_mk (st := (inClass (topS 39) 6)) l_Game_tick c_Game_tick k_Game_tick⟩,
    d_Game_many_due := ⟨_, _, ⟨a_Game_many_due, i_Game_many_due, k_Game_many_due⟩, fun_mk (st := (inClass (topS 39) 7)) l_Game_many_due c_Game_many_due k_Game_many_due⟩,
    d_Game_frame := ⟨_, _, ⟨a_Game_frame, i_Game_frame, k_Game_frame⟩, fun_mk (st := (inClass (topS 39) 8)) l_Game_frame c_Game_frame k_Game_frame⟩,
    d_Game_take_length := ⟨_, _, ⟨a_Game_take_length, i_Game_take_length, k_Game_take_length⟩, fun_mk (st := (inClass (topS 39) 9)) l_Game_take_length c_Game_take_length k_Game_take_length⟩,
    d_Game_back := ⟨_, _, ⟨a_Game_back, i_Game_back, k_Game_back⟩, fun_mk (st := (inClass (topS 39) 10)) l_Game_back c_Game_back k_Game_back⟩,
    d_Game_copied := ⟨_, _, ⟨a_Game_copied, i_Game_copied, k_Game_copied⟩, fun_mk (st := (inClass (topS 39) 11)) l_Game_copied c_Game_copied k_Game_copied⟩,
    d_Game_parts_from := ⟨_, _, ⟨a_Game_parts_from, i_Game_parts_from, k_Game_parts_from⟩, fun_mk (st := (inClass (topS 39) 12)) l_Game_parts_from c_Game_parts_from k_Game_parts_from⟩,
    d_Refused := ⟨_, fun_mk (st := (inClass (topS 56) 0)) l_Refused___init__ c_Refused___init__ k_Refused___init__⟩,
    d_refuse := ⟨_, _, PySem.W.mg_of X G a_refuse, k_refuse, fun_mk (st := (topS 57)) l_refuse c_refuse k_refuse⟩,
    d_counted := ⟨_, _, PySem.W.mg_of X G a_counted, k_counted, fun_mk (st := (topS 58)) l_counted c_counted k_counted⟩,
    d_Desk := ⟨_, _, PySem.W.mg_of X G n_Desk, ⟨mk_Desk, a_Desk___init__, i_Desk___init__, kc_Desk⟩, fun_mk (st := (inClass (topS 59) 0)) l_Desk___init__ c_Desk___init__ k_Desk___init__⟩,
    d_Desk_cave := ⟨_, _, ⟨a_Desk_cave, i_Desk_cave, k_Desk_cave⟩, fun_mk (st := (inClass (topS 59) 1)) l_Desk_cave c_Desk_cave k_Desk_cave⟩,
    d_Desk_hold := ⟨_, _, ⟨a_Desk_hold, i_Desk_hold, k_Desk_hold⟩, fun_mk (st := (inClass (topS 59) 2)) l_Desk_hold c_Desk_hold k_Desk_hold⟩,
    d_Desk_need_ticks := ⟨_, _, ⟨a_Desk_need_ticks, i_Desk_need_ticks, k_Desk_need_ticks⟩, fun_mk (st := (inClass (topS 59) 3)) l_Desk_need_ticks c_Desk_need_ticks k_Desk_need_ticks⟩,
    d_Desk_frame := ⟨_, _, ⟨a_Desk_frame, i_Desk_frame, k_Desk_frame⟩, fun_mk (st := (inClass (topS 59) 4)) l_Desk_frame c_Desk_frame k_Desk_frame⟩,
    d_Desk_speed := ⟨_, _, ⟨a_Desk_speed, i_Desk_speed, k_Desk_speed⟩, fun_mk (st := (inClass (topS 59) 5)) l_Desk_speed c_Desk_speed k_Desk_speed⟩,
    d_Desk_save := ⟨_, _, ⟨a_Desk_save, i_Desk_save, k_Desk_save⟩, fun_mk (st := (inClass (topS 59) 6)) l_Desk_save c_Desk_save k_Desk_save⟩,
    d_Desk_load := ⟨_, _, ⟨a_Desk_load, i_Desk_load, k_Desk_load⟩, fun_mk (st := (inClass (topS 59) 7)) l_Desk_load c_Desk_load k_Desk_load⟩,
    d_Desk_place := ⟨_, _, ⟨a_Desk_place, i_Desk_place, k_Desk_place⟩, fun_mk (st := (inClass (topS 59) 8)) l_Desk_place c_Desk_place k_Desk_place⟩,
    d_Desk_seen := ⟨_, _, ⟨a_Desk_seen, i_Desk_seen, k_Desk_seen⟩, fun_mk (st := (inClass (topS 59) 9)) l_Desk_seen c_Desk_seen k_Desk_seen⟩,
    d_Desk_back := ⟨_, _, ⟨a_Desk_back, i_Desk_back, k_Desk_back⟩, fun_mk (st := (inClass (topS 59) 10)) l_Desk_back c_Desk_back k_Desk_back⟩,
    d_Desk_play := ⟨_, _, ⟨a_Desk_play, i_Desk_play, k_Desk_play⟩, fun_mk (st := (inClass (topS 59) 11)) l_Desk_play c_Desk_play k_Desk_play⟩,
    d_Desk_differ := ⟨_, _, ⟨a_Desk_differ, i_Desk_differ, k_Desk_differ⟩, fun_mk (st := (inClass (topS 59) 12)) l_Desk_differ c_Desk_differ k_Desk_differ⟩,
    d_Desk_of_one := ⟨_, _, ⟨a_Desk_of_one, i_Desk_of_one, k_Desk_of_one⟩, fun_mk (st := (inClass (topS 59) 13)) l_Desk_of_one c_Desk_of_one k_Desk_of_one⟩,
    d_Desk_done := ⟨_, _, ⟨a_Desk_done, i_Desk_done, k_Desk_done⟩, fun_mk (st := (inClass (topS 59) 14)) l_Desk_done c_Desk_done k_Desk_done⟩,
    d_Desk_answer := ⟨_, _, ⟨a_Desk_answer, i_Desk_answer, k_Desk_answer⟩, fun_mk (st := (inClass (topS 59) 15)) l_Desk_answer c_Desk_answer k_Desk_answer⟩,
    d_answers := ⟨_, _, PySem.W.mg_of X G a_answers, k_answers, fun_mk (st := (topS 63)) l_answers c_answers k_answers⟩ }
  have F := fun_mk (st := (topS 63)) l_answers c_answers k_answers
  exact ⟨PySem.W.fnOf "answers" "answers" (defArgs (topS 63)) (defBody (topS 63)) (defScope (topS 63)) .none kV56 dc56 pm56 an56 cd56 ct56, fun s us hu => match us, hu with | [_], _ => .of_eq rfl, fun base _ _ => g_answers F T⟩
end SC
/-! MA: one tick: the mirror is the specification's. -/
namespace SC
open PySem
/-- the state within a tick, on both sides -/
structure RS (t : Nat) (s : TS) (c : Ge13.Cave) (m : Ge13.Marks) : Prop where
  e : c = ⟨s.w, s.h, s.cells, s.st, s.pts, t⟩
  ok : s.Ok
  m : ∀ X Y, X < s.w → Y < s.h → s.had.getD (Y * s.w + X) false = m.contains (X, Y)
theorem idx_lt {w h X Y : Nat} (hx : X < w) (hy : Y < h) : Y * w + X < w * h := by
  have h1 := Nat.mul_le_mul_right w (Nat.succ_le_of_lt hy)
  rw [Nat.succ_mul] at h1
  rw [Nat.mul_comm w h]
  omega
theorem idx_inj {w X Y X' Y' : Nat} (hx : X < w) (hx' : X' < w) (e : Y * w + X = Y' * w + X') : X = X' ∧ Y = Y' := by
  have h1 : (Y * w + X) % w = X := by rw [Nat.mul_comm, Nat.mul_add_mod]; exact Nat.mod_eq_of_lt hx
  have h2 : (Y' * w + X') % w = X' := by rw [Nat.mul_comm, Nat.mul_add_mod]; exact Nat.mod_eq_of_lt hx'
  have h3 : (Y * w + X) / w = Y := by rw [Nat.mul_comm, Nat.mul_add_div (by omega), Nat.div_eq_of_lt hx]; rfl
  have h4 : (Y' * w + X') / w = Y' := by rw [Nat.mul_comm, Nat.mul_add_div (by omega), Nat.div_eq_of_lt hx']; rfl
  rw [e] at h1 h3
  exact ⟨h1.symm.trans h2, h3.symm.trans h4⟩
theorem pl_nat (s : TS) (X Y : Nat) : pl s (X : Int) (Y : Int) = Y * s.w + X := by
  unfold pl
  rw [← Int.natCast_mul, ← Int.natCast_add, Int.toNat_natCast]
theorem inR_nat (s : TS) (X Y : Nat) : inR s (X : Int) (Y : Int) ↔ X < s.w ∧ Y < s.h := by
  unfold inR
  omega
section
variable {t : Nat} {s : TS} {c : Ge13.Cave} {m : Ge13.Marks} {x y d v : Nat} {q : Nat × Nat}
theorem RS.at_ (R : RS t s c m) (X Y : Nat) : atM s (X : Int) (Y : Int) = Ge13.at_ c X Y := by
  rw [R.e]
  unfold atM Ge13.at_
  dsimp only
  by_cases h : X < s.w ∧ Y < s.h
  · rw [if_pos ((inR_nat s X Y).mpr h), if_pos h, pl_nat]
  · rw [if_neg fun z => h ((inR_nat s X Y).mp z), if_neg h]
theorem out_x {s : TS} {x y : Int} (h : x < 0) : atM s x y = 2 := if_neg fun z => by have := z.1; omega
theorem out_y {s : TS} {x y : Int} (h : y < 0) : atM s x y = 2 := if_neg fun z => by have := z.2.2.1; omega
theorem at_out {c : Ge13.Cave} {X Y : Nat} (h : ¬ (X < c.w ∧ Y < c.h)) : Ge13.at_ c X Y = 2 := if_neg h
theorem d4 {d : Nat} (h : d < 4) : d = 0 ∨ d = 1 ∨ d = 2 ∨ d = 3 := by omega
/-- the thing beside -/
theorem RS.near (R : RS t s c m) (hd : d < 4) : atM s ((x : Int) + wayX d) ((y : Int) + wayY d) = Ge13.at_ c (Ge13.beside c x y d).1 (Ge13.beside c x y d).2 := by
  rcases d4 hd with rfl | rfl | rfl | rfl
  · exact R.at_ (x + 1) y
  · exact R.at_ x (y + 1)
  · cases x with
    | zero =>
      have e : (Ge13.beside c 0 y 2) = (c.w, y) := rfl
      rw [e, at_out (by omega)]
      exact out_x (by show ((0 : Nat) : Int) + -1 < 0; omega)
    | succ x =>
      have e1 : ((x + 1 : Nat) : Int) + wayX 2 = (x : Int) := by show ((x + 1 : Nat) : Int) + -1 = _; omega
      have e2 : (y : Int) + wayY 2 = (y : Int) := by show (y : Int) + 0 = _; omega
      rw [e1, e2]
      exact R.at_ x y
  · cases y with
    | zero =>
      have e : (Ge13.beside c x 0 3) = (x, c.h) := rfl
      rw [e, at_out (by omega)]
      exact out_y (by show ((0 : Nat) : Int) + -1 < 0; omega)
    | succ y =>
      have e1 : ((y + 1 : Nat) : Int) + wayY 3 = (y : Int) := by show ((y + 1 : Nat) : Int) + -1 = _; omega
      have e2 : (x : Int) + wayX 3 = (x : Int) := by show (x : Int) + 0 = _; omega
      rw [e1, e2]
      exact R.at_ x y
/-- where it is -/
theorem beside_co {c : Ge13.Cave} {x y d : Nat} (hd : d < 4) (hx : (Ge13.beside c x y d).1 < c.w) (hy : (Ge13.beside c x y d).2 < c.h) : (x : Int) + wayX d = ((Ge13.beside c x y d).1 : Int) ∧ (y : Int) + wayY d = ((Ge13.beside c x y d).2 : Int) := by
  rcases d4 hd with rfl | rfl | rfl | rfl
  · exact ⟨rfl, Int.add_zero _⟩
  · exact ⟨Int.add_zero _, rfl⟩
  · cases x with
    | zero => exact absurd hx (Nat.lt_irrefl _)
    | succ x => exact ⟨by show ((x + 1 : Nat) : Int) + -1 = (x : Int); omega, Int.add_zero _⟩
  · cases y with
    | zero => exact absurd hy (Nat.lt_irrefl _)
    | succ y => exact ⟨Int.add_zero _, by show ((y + 1 : Nat) : Int) + -1 = (y : Int); omega⟩
theorem at_ne2 {c : Ge13.Cave} {X Y : Nat} (h : Ge13.at_ c X Y ≠ 2) : X < c.w ∧ Y < c.h := by
  by_cases z : X < c.w ∧ Y < c.h
  · exact z
  · exact absurd (at_out z) h
theorem beside_ne {c : Ge13.Cave} {x y d : Nat} (hd : d < 4) (hx : x < c.w) (hy : y < c.h) : Ge13.beside c x y d ≠ (x, y) := by
  rcases d4 hd with rfl | rfl | rfl | rfl
  · show (x + 1, y) ≠ (x, y)
    intro z
    have := (Prod.mk.inj z).1
    omega
  · show (x, y + 1) ≠ (x, y)
    intro z
    have := (Prod.mk.inj z).2
    omega
  · cases x with
    | zero => exact fun z => by have := (Prod.mk.inj (show (c.w, y) = (0, y) from z)).1; omega
    | succ x => exact fun z => by have := (Prod.mk.inj (show (x, y) = (x + 1, y) from z)).1; omega
  · cases y with
    | zero => exact fun z => by have := (Prod.mk.inj (show (x, c.h) = (x, 0) from z)).2; omega
    | succ y => exact fun z => by have := (Prod.mk.inj (show (x, y) = (x, y + 1) from z)).2; omega
theorem RS.put (R : RS t s c m) (hv : v ≤ 12) : RS t (putM s (x : Int) (y : Int) v) (Ge13.put c x y v) m := by
  refine ⟨?_, putM_ok R.ok hv, R.m⟩
  rw [R.e]
  unfold putM Ge13.put
  dsimp only
  rw [pl_nat]
theorem RS.mark (R : RS t s c m) (hx : x < s.w) (hy : y < s.h) : RS t { s with had := s.had.set (y * s.w + x) true } c ((x, y) :: m) := by
  refine ⟨R.e, ⟨R.ok.hw, R.ok.hh, R.ok.lc, by show (s.had.set _ _).length = _; rw [List.length_set]; exact R.ok.lh, R.ok.c12⟩, fun X Y hX hY => ?_⟩
  show (s.had.set (y * s.w + x) true).getD (Y * s.w + X) false = _
  have hl : Y * s.w + X < s.had.length := by rw [R.ok.lh]; exact idx_lt hX hY
  rw [List.getD_eq_getElem?_getD, List.getElem?_set]
  by_cases e : (X, Y) = (x, y)
  · obtain ⟨rfl, rfl⟩ := Prod.mk.inj e
    rw [if_pos rfl, if_pos hl]
    simp
  · have ne : ¬ (y * s.w + x = Y * s.w + X) := fun z => e (by obtain ⟨z1, z2⟩ := idx_inj hx hX z; rw [z1, z2])
    rw [if_neg ne, ← List.getD_eq_getElem?_getD, R.m X Y hX hY, List.contains_cons]
    have : ((X, Y) == (x, y)) = false := by simpa using e
    rw [this, Bool.false_or]
theorem RS.arrive (R : RS t s c m) (hx : x < s.w) (hy : y < s.h) (hv : v ≤ 12) : RS t (arriveM s (x : Int) (y : Int) v) (Ge13.put c x y v) ((x, y) :: m) := by
  have q := (R.put (x := x) (y := y) hv).mark (x := x) (y := y) hx hy
  have e : arriveM s (x : Int) (y : Int) v = { putM s (x : Int) (y : Int) v with had := (putM s (x : Int) (y : Int) v).had.set (y * (putM s (x : Int) (y : Int) v).w + x) true } := by
    unfold arriveM
    rw [pl_nat]
    rfl
  rw [e]
  exact q
theorem RS.go (R : RS t s c m) (hd : d < 4) (hx : (Ge13.beside c x y d).1 < c.w) (hy : (Ge13.beside c x y d).2 < c.h) (hv : v ≤ 12) :
    RS t (goM s (x : Int) (y : Int) (wayX d) (wayY d) v) (Ge13.goTo c x y (Ge13.beside c x y d) v) (Ge13.beside c x y d :: m) := by
  obtain ⟨e1, e2⟩ := beside_co hd hx hy
  have hw : c.w = s.w := by rw [R.e]
  have hh : c.h = s.h := by rw [R.e]
  unfold goM Ge13.goTo
  rw [e1, e2]
  exact (R.put (x := x) (y := y) (v := 0) (by omega)).arrive (by rw [hw] at hx; exact hx) (by rw [hh] at hy; exact hy) hv
theorem RS.with_ (R : RS t s c m) (a b : Nat) : RS t { s with st := a, pts := b } { c with over := a, points := b } m := by
  refine ⟨?_, st_ok R.ok a b, R.m⟩
  rw [R.e]
theorem RS.pts_ (R : RS t s c m) (b : Nat) : RS t { s with pts := b } { c with points := b } m := ⟨by rw [R.e], st_ok R.ok s.st b, R.m⟩
theorem RS.st_ (R : RS t s c m) (a : Nat) : RS t { s with st := a } { c with over := a } m := ⟨by rw [R.e], st_ok R.ok a s.pts, R.m⟩
theorem RS.cast {c' : Ge13.Cave} {m' : Ge13.Marks} (R : RS t s c m) (hc : c' = c) (hm : ∀ p, m'.contains p = m.contains p) : RS t s c' m' := ⟨hc.trans R.e, R.ok, fun X Y h1 h2 => (R.m X Y h1 h2).trans (hm _).symm⟩
theorem RS.w (R : RS t s c m) : c.w = s.w := by rw [R.e]
theorem RS.h (R : RS t s c m) : c.h = s.h := by rw [R.e]
theorem RS.points (R : RS t s c m) : c.points = s.pts := by rw [R.e]
theorem gems_none (l : List Nat) : ((l.contains 5 || l.contains 6) = false) ↔ (l.filter fun v => v == 5 || v == 6).length = 0 := by
  rw [List.length_eq_zero_iff, List.filter_eq_nil_iff, Bool.or_eq_false_iff]
  constructor
  · rintro ⟨h1, h2⟩ v hv z
    rcases Bool.or_eq_true_iff.mp z with z | z
    · rw [beq_iff_eq.mp z] at hv; rw [List.contains_eq_mem] at h1; simp [hv] at h1
    · rw [beq_iff_eq.mp z] at hv; rw [List.contains_eq_mem] at h2; simp [hv] at h2
  · intro h
    refine ⟨?_, ?_⟩
    · cases e : l.contains 5 with
      | false => rfl
      | true => exact absurd rfl (h 5 (by simpa using e))
    · cases e : l.contains 6 with
      | false => rfl
      | true => exact absurd rfl (h 6 (by simpa using e))
theorem put_comm {c : Ge13.Cave} {x y X Y u v : Nat} (h : y * c.w + x ≠ Y * c.w + X) : Ge13.put (Ge13.put c x y u) X Y v = Ge13.put (Ge13.put c X Y v) x y u := by
  unfold Ge13.put
  dsimp only
  rw [List.set_comm _ _ h]
theorem put_put {c : Ge13.Cave} {x y u v : Nat} : Ge13.put (Ge13.put c x y u) x y v = Ge13.put c x y v := by
  unfold Ge13.put
  dsimp only
  rw [List.set_set]
theorem RS.play (R : RS t s c m) (hx : x < s.w) (hy : y < s.h) {key : Nat} (hk : key ≤ 4) : RS t (playM s (x : Int) (y : Int) key) (Ge13.playerTurn c m x y key).1 (Ge13.playerTurn c m x y key).2 := by
  unfold playM Ge13.playerTurn
  by_cases k0 : key = 0
  · rw [if_pos k0, if_pos k0]; exact R
  rw [if_neg k0, if_neg k0]
  dsimp only
  have hd : key - 1 < 4 := by omega
  generalize key - 1 = d at hd
  rw [R.near hd]
  obtain ⟨u, hv⟩ : ∃ u : Nat, Ge13.at_ c (Ge13.beside c x y d).1 (Ge13.beside c x y d).2 = u := ⟨_, rfl⟩
  have inr : ¬ (u = (2 : Nat)) → (Ge13.beside c x y d).1 < c.w ∧ (Ge13.beside c x y d).2 < c.h := fun z => at_ne2 (by rw [hv]; exact z)
  rw [hv]
  by_cases a : u = 0 ∨ u = 1
  · obtain ⟨q1, q2⟩ := inr (by omega)
    rw [if_pos (by omega), if_pos a, if_neg (show ¬ (u = 5 ∨ u = 6) by omega)]
    exact R.go hd q1 q2 (v := 7) (by omega)
  rw [if_neg a]
  by_cases b : u = 5 ∨ u = 6
  · obtain ⟨q1, q2⟩ := inr (by omega)
    rw [if_pos (by omega), if_pos b, if_pos b, R.points]
    exact (R.go hd q1 q2 (v := 7) (by omega)).pts_ (s.pts + 10)
  rw [if_neg (show ¬ (u = 0 ∨ u = 1 ∨ u = 5 ∨ u = 6) by omega), if_neg b]
  by_cases e3 : u = 3
  · rw [if_pos e3]
    obtain ⟨q1, q2⟩ := inr (by omega)
    obtain ⟨c1, c2⟩ := beside_co hd q1 q2
    unfold pushM
    by_cases dd : d = 0 ∨ d = 2
    · have wy : wayY d = 0 := by rcases dd with rfl | rfl <;> rfl
      rw [if_pos (show u = 3 ∧ (d = 0 ∨ d = 2) from ⟨e3, dd⟩)]
      have near2 := R.near (x := (Ge13.beside c x y d).1) (y := (Ge13.beside c x y d).2) hd
      have ex : (x : Int) + 2 * wayX d = ((Ge13.beside c x y d).1 : Int) + wayX d := by omega
      have ey : (y : Int) = ((Ge13.beside c x y d).2 : Int) + wayY d := by omega
      have at2 : atM s ((x : Int) + 2 * wayX d) (y : Int) = Ge13.at_ c (Ge13.beside c (Ge13.beside c x y d).1 (Ge13.beside c x y d).2 d).1 (Ge13.beside c (Ge13.beside c x y d).1 (Ge13.beside c x y d).2 d).2 := by
        rw [ex, ← near2, ← ey]
      rw [at2]
      by_cases r0 : Ge13.at_ c (Ge13.beside c (Ge13.beside c x y d).1 (Ge13.beside c x y d).2 d).1 (Ge13.beside c (Ge13.beside c x y d).1 (Ge13.beside c x y d).2 d).2 = 0
      · rw [if_pos (show wayY d = 0 ∧ _ from ⟨wy, r0⟩), if_pos r0]
        obtain ⟨r1, r2⟩ := at_ne2 (c := c) (by rw [r0]; decide : Ge13.at_ c _ _ ≠ 2)
        have G1 := R.go (x := (Ge13.beside c x y d).1) (y := (Ge13.beside c x y d).2) hd r1 r2 (v := 3) (by omega)
        have es : goM s ((x : Int) + wayX d) (y : Int) (wayX d) (wayY d) 3 = goM s ((Ge13.beside c x y d).1 : Int) ((Ge13.beside c x y d).2 : Int) (wayX d) (wayY d) 3 := by
          rw [c1, show (y : Int) = ((Ge13.beside c x y d).2 : Int) by omega]
        rw [es]
        have G2 := G1.go (x := x) (y := y) hd q1 q2 (v := 7) (by omega)
        refine G2.cast ?_ fun p => ?_
        · have hxw : x < c.w := by rw [R.w]; exact hx
          have hyh : y < c.h := by rw [R.h]; exact hy
          have n1 := beside_ne (c := c) hd hxw hyh
          have n2 := beside_ne (c := c) (x := (Ge13.beside c x y d).1) (y := (Ge13.beside c x y d).2) hd q1 q2
          have b2 : Ge13.beside (Ge13.goTo c (Ge13.beside c x y d).1 (Ge13.beside c x y d).2 (Ge13.beside c (Ge13.beside c x y d).1 (Ge13.beside c x y d).2 d) 3) x y d = Ge13.beside c x y d := rfl
          rw [b2]
          generalize Ge13.beside c (Ge13.beside c x y d).1 (Ge13.beside c x y d).2 d = r at r1 r2 n2
          generalize Ge13.beside c x y d = q at q1 q2 n1 n2
          unfold Ge13.goTo
          have i1 : q.2 * c.w + q.1 ≠ r.2 * c.w + r.1 := fun z => n2 (by obtain ⟨z1, z2⟩ := idx_inj q1 r1 z; exact Prod.ext z1.symm z2.symm)
          have i2 : q.2 * c.w + q.1 ≠ y * c.w + x := fun z => n1 (by obtain ⟨z1, z2⟩ := idx_inj q1 hxw z; exact Prod.ext z1 z2)
          rw [put_comm (c := c) (u := 0) (v := 3) i1, put_comm (c := Ge13.put c r.1 r.2 3) (u := 0) (v := 0) i2, put_put]
        · simp only [List.contains_cons]
          rw [← Bool.or_assoc, ← Bool.or_assoc, Bool.or_comm (p == _) (p == _)]
          rfl
      · rw [if_neg (show ¬ (wayY d = 0 ∧ _) from fun z => r0 z.2), if_neg r0]; exact R
    · have wy : ¬ wayY d = 0 := by
        rcases d4 hd with rfl | rfl | rfl | rfl
        · exact absurd (.inl rfl) dd
        · decide
        · exact absurd (.inr rfl) dd
        · decide
      rw [if_neg (show ¬ (wayY d = 0 ∧ _) from fun z => wy z.1), if_neg (show ¬ (u = 3 ∧ (d = 0 ∨ d = 2)) from fun z => dd z.2), if_neg (show ¬ (u = 12 ∧ Ge13.gems c = 0) from fun z => by have := z.1; omega)]
      exact R
  rw [if_neg e3, if_neg (show ¬ (u = 3 ∧ (d = 0 ∨ d = 2)) from fun z => e3 z.1)]
  have gm : gemsM s = false ↔ Ge13.gems c = 0 := by
    have : Ge13.gems c = (s.cells.filter fun v => v == 5 || v == 6).length := by rw [R.e]; rfl
    rw [this]
    exact gems_none s.cells
  by_cases f : u = 12 ∧ Ge13.gems c = 0
  · rw [if_pos (show u = 12 ∧ gemsM s = false from ⟨f.1, gm.mpr f.2⟩), if_pos f, R.points]
    exact (R.put (x := x) (y := y) (v := 0) (by omega)).with_ 1 (s.pts + 100)
  · rw [if_neg (show ¬ (u = 12 ∧ gemsM s = false) from fun z => f ⟨z.1, gm.mp z.2⟩), if_neg f]
    exact R
end
end SC
/-! MB: one tick: stones, monsters, all places. -/
namespace SC
open PySem
section
variable {t : Nat} {s : TS} {c : Ge13.Cave} {m : Ge13.Marks} {x y v : Nat}
theorem RS.near' (R : RS t s c m) {d : Nat} (hd : d < 4) : nearM s (x : Int) (y : Int) d = Ge13.cellTo c x y d := R.near hd
theorem RS.fall (R : RS t s c m) (hx : x < s.w) (hy : y < s.h) (hv : 3 ≤ v ∧ v ≤ 6) : RS t (fallM s (x : Int) (y : Int) v) (Ge13.stoneTurn c m x y v).1 (Ge13.stoneTurn c m x y v).2 := by
  have hxw : x < c.w := by rw [R.w]; exact hx
  have hyh : y < c.h := by rw [R.h]; exact hy
  obtain ⟨still, hs⟩ : ∃ still : Nat, still = lyingM v := ⟨_, rfl⟩
  have hs' : (if v = 3 ∨ v = 4 then 3 else 5) = still := hs.symm
  have hf : fallenM v = still + 1 := by rw [hs]; unfold fallenM lyingM; split <;> rfl
  have s12 : still ≤ 5 := by rw [hs]; unfold lyingM; split <;> omega
  have vf : (v = 4 ∨ v = 6) ↔ v = still + 1 := by rw [hs]; unfold lyingM; split <;> omega
  unfold fallM Ge13.stoneTurn
  dsimp only
  rw [hs', hf, ← hs]
  have eb : Ge13.beside c x y 1 = (x, y + 1) := rfl
  rw [eb]
  have ea : atM s (x : Int) ((y : Int) + 1) = Ge13.at_ c x (y + 1) := R.at_ x (y + 1)
  rw [ea]
  obtain ⟨u, hu⟩ : ∃ u : Nat, Ge13.at_ c x (y + 1) = u := ⟨_, rfl⟩
  have inr : ¬ (u = (2 : Nat)) → x < c.w ∧ y + 1 < c.h := fun z => at_ne2 (by rw [hu]; exact z)
  rw [hu]
  have G : ¬ (u = (2 : Nat)) → ∀ n : Nat, n ≤ 12 → RS t (goM s (x : Int) (y : Int) 0 1 n) (Ge13.goTo c x y (x, y + 1) n) ((x, y + 1) :: m) := fun z n hn => R.go (d := 1) (by omega) (inr z).1 (inr z).2 hn
  have still_ : RS t (putM s (x : Int) (y : Int) still) (Ge13.put c x y still) m := R.put (by omega)
  by_cases a : u = 0
  · rw [if_pos a, if_pos a]
    exact G (by omega) _ (by omega)
  rw [if_neg a, if_neg a]
  by_cases b : v = still + 1 ∧ u = 7
  · rw [if_pos (show (v = 4 ∨ v = 6) ∧ u = 7 from ⟨vf.mpr b.1, b.2⟩), if_pos b]
    exact (G (by omega) still (by omega)).st_ 2
  rw [if_neg (show ¬ ((v = 4 ∨ v = 6) ∧ u = 7) from fun z => b ⟨vf.mp z.1, z.2⟩), if_neg b]
  have hm : monsterM u = true ↔ (8 ≤ u ∧ u ≤ 11) := decide_eq_true_iff
  by_cases e : v = still + 1 ∧ 8 ≤ u ∧ u ≤ 11
  · rw [if_pos (show (v = 4 ∨ v = 6) ∧ monsterM u = true from ⟨vf.mpr e.1, hm.mpr e.2⟩), if_pos e, R.points]
    obtain ⟨q1, q2⟩ := inr (by omega)
    have A1 := R.arrive (x := x) (y := y + 1) (v := 5) (by rw [R.w] at q1; exact q1) (by rw [R.h] at q2; exact q2) (by omega)
    have A2 := (A1.put (x := x) (y := y) (v := still) (by omega)).pts_ (s.pts + 20)
    refine A2.cast ?_ fun p => rfl
    have ne : (y + 1) * c.w + x ≠ y * c.w + x := fun z => by have := (idx_inj hxw hxw z).2; omega
    rw [put_comm (c := c) (u := 5) (v := still) ne]
  rw [if_neg (show ¬ ((v = 4 ∨ v = 6) ∧ monsterM u = true) from fun z => e ⟨vf.mp z.1, hm.mp z.2⟩), if_neg e]
  by_cases f : u = 3 ∨ u = 5
  · rw [if_pos f, if_pos f]
    unfold rollM
    rw [hf, ← hs]
    have lft : freeM s (x : Int) (y : Int) (-1) ↔ (Ge13.cellTo c x y 2 = 0 ∧ Ge13.cellTo c (Ge13.beside c x y 2).1 (Ge13.beside c x y 2).2 1 = 0) := by
      cases x with
      | zero =>
        constructor
        · intro z
          have := z.1
          rw [out_x (by omega)] at this
          omega
        · intro z
          have e1 : Ge13.cellTo c 0 y 2 = 2 := at_out (c := c) (X := c.w) (Y := y) (by omega)
          rw [e1] at z
          exact absurd z.1 (by decide)
      | succ x =>
        have e1 : ((x + 1 : Nat) : Int) + -1 = (x : Int) := by omega
        unfold freeM
        rw [e1]
        have a1 := R.at_ x y
        have a2 := R.at_ x (y + 1)
        rw [a1, show atM s (x : Int) ((y : Int) + 1) = _ from a2]
        exact Iff.rfl
    have rgt : freeM s (x : Int) (y : Int) 1 ↔ (Ge13.cellTo c x y 0 = 0 ∧ Ge13.cellTo c (x + 1) y 1 = 0) := by
      unfold freeM
      have a1 := R.at_ (x + 1) y
      have a2 := R.at_ (x + 1) (y + 1)
      rw [show atM s ((x : Int) + 1) (y : Int) = _ from a1, show atM s ((x : Int) + 1) ((y : Int) + 1) = _ from a2]
      exact Iff.rfl
    by_cases l : freeM s (x : Int) (y : Int) (-1)
    · have l' := lft.mp l
      rw [if_pos l, if_pos l']
      obtain ⟨q1, q2⟩ := at_ne2 (c := c) (X := (Ge13.beside c x y 2).1) (Y := (Ge13.beside c x y 2).2) (fun z => by have z2 : Ge13.cellTo c x y 2 = 2 := z; rw [l'.1] at z2; exact absurd z2 (by decide))
      exact R.go (d := 2) (by omega) q1 q2 (by omega)
    rw [if_neg l, if_neg fun z => l (lft.mpr z)]
    by_cases r : freeM s (x : Int) (y : Int) 1
    · have r' := rgt.mp r
      rw [if_pos r, if_pos r']
      obtain ⟨q1, q2⟩ := at_ne2 (c := c) (X := x + 1) (Y := y) (fun z => by have z2 : Ge13.cellTo c x y 0 = 2 := z; rw [r'.1] at z2; exact absurd z2 (by decide))
      exact R.go (d := 0) (by omega) q1 q2 (by omega)
    rw [if_neg r, if_neg fun z => r (rgt.mpr z)]
    exact still_
  · rw [if_neg f, if_neg f]
    exact still_
theorem any4 (f : Nat → Bool) : ((List.range 4).any f = true) ↔ (f 0 = true ∨ f 1 = true ∨ f 2 = true ∨ f 3 = true) := by
  have e : List.range 4 = [0, 1, 2, 3] := rfl
  rw [e]
  simp [List.any_cons]
theorem RS.walk (R : RS t s c m) (hx : x < s.w) (hy : y < s.h) (hv : 8 ≤ v ∧ v ≤ 11) : RS t (walkM s (x : Int) (y : Int) v) (Ge13.monsterTurn c m x y v).1 (Ge13.monsterTurn c m x y v).2 := by
  unfold walkM Ge13.monsterTurn
  dsimp only
  have hl : (v - 8 + 3) % 4 < 4 := Nat.mod_lt _ (by omega)
  have hd : v - 8 < 4 := by omega
  rw [R.near' (d := 0) (by omega), R.near' (d := 1) (by omega), R.near' (d := 2) (by omega), R.near' (d := 3) (by omega), R.near' hl, R.near' hd]
  have near : (Ge13.cellTo c x y 0 = 7 ∨ Ge13.cellTo c x y 1 = 7 ∨ Ge13.cellTo c x y 2 = 7 ∨ Ge13.cellTo c x y 3 = 7) ↔ (((List.range 4).any fun e => Ge13.cellTo c x y e == 7) = true) := by
    rw [any4]
    simp only [beq_iff_eq]
  by_cases a : (((List.range 4).any fun e => Ge13.cellTo c x y e == 7) = true)
  · rw [if_pos (near.mpr a), if_pos a]
    exact R.st_ 2
  rw [if_neg fun z => a (near.mp z), if_neg a]
  have mv : ∀ {d n : Nat}, d < 4 → n ≤ 12 → Ge13.cellTo c x y d = 0 → RS t (goM s (x : Int) (y : Int) (wayX d) (wayY d) n) (Ge13.goTo c x y (Ge13.beside c x y d) n) (Ge13.beside c x y d :: m) := fun {d n} hd hn z => by
    obtain ⟨q1, q2⟩ := at_ne2 (c := c) (X := (Ge13.beside c x y d).1) (Y := (Ge13.beside c x y d).2) (fun z2 => by have z3 : Ge13.cellTo c x y d = 2 := z2; rw [z] at z3; exact absurd z3 (by decide))
    exact R.go hd q1 q2 hn
  by_cases b : Ge13.cellTo c x y ((v - 8 + 3) % 4) = 0
  · rw [if_pos b, if_pos b]
    exact mv hl (by omega) b
  rw [if_neg b, if_neg b]
  by_cases e : Ge13.cellTo c x y (v - 8) = 0
  · rw [if_pos e, if_pos e]
    exact mv hd (by omega) e
  rw [if_neg e, if_neg e]
  exact R.put (by have := Nat.mod_lt (v - 8 + 1) (show 4 > 0 by omega); omega)
/-- what the specification does at one place -/
def placeS (key : Nat) (a : Ge13.Cave × Ge13.Marks) (x y : Nat) : Ge13.Cave × Ge13.Marks :=
  if a.1.over ≠ 0 ∨ a.2.contains (x, y) = true then a else
    if Ge13.at_ a.1 x y = 7 then Ge13.playerTurn a.1 a.2 x y key else if 3 ≤ Ge13.at_ a.1 x y ∧ Ge13.at_ a.1 x y ≤ 6 then Ge13.stoneTurn a.1 a.2 x y (Ge13.at_ a.1 x y) else if 8 ≤ Ge13.at_ a.1 x y ∧ Ge13.at_ a.1 x y ≤ 11 then Ge13.monsterTurn a.1 a.2 x y (Ge13.at_ a.1 x y) else a
theorem RS.place (R : RS t s c m) {i key : Nat} (hi : i < s.w * s.h) (hk : key ≤ 4) : RS t (stepM key s i) (placeS key (c, m) (i % s.w) (i / s.w)).1 (placeS key (c, m) (i % s.w) (i / s.w)).2 := by
  have hw := R.ok.hw.1
  have hx : i % s.w < s.w := Nat.mod_lt _ (by omega)
  have hy : i / s.w < s.h := Nat.div_lt_of_lt_mul hi
  have hm := R.m (i % s.w) (i / s.w) hx hy
  have ei : i / s.w * s.w + i % s.w = i := by rw [Nat.mul_comm]; exact Nat.div_add_mod i s.w
  rw [ei] at hm
  have ho : c.over = s.st := by rw [R.e]
  unfold stepM placeS
  dsimp only
  by_cases a : c.over ≠ 0 ∨ m.contains (i % s.w, i / s.w) = true
  · rw [if_pos a, if_neg fun z => ?_]
    · exact R
    · rcases a with a | a
      · exact a (ho.trans z.1)
      · rw [← hm, z.2] at a; cases a
  rw [if_neg a]
  rw [not_or] at a
  have a1 : s.st = 0 := by rw [← ho]; exact Decidable.not_not.mp a.1
  have a2 : s.had.getD i false = false := by rw [hm]; simpa using a.2
  rw [if_pos ⟨a1, a2⟩]
  unfold turnM
  dsimp only
  rw [R.at_ (i % s.w) (i / s.w)]
  obtain ⟨u, hu⟩ : ∃ u : Nat, Ge13.at_ c (i % s.w) (i / s.w) = u := ⟨_, rfl⟩
  rw [hu]
  by_cases b : u = 7
  · rw [if_pos b, if_pos b]
    exact R.play hx hy hk
  rw [if_neg b, if_neg b]
  by_cases e : 3 ≤ u ∧ u ≤ 6
  · rw [if_pos (show u = 3 ∨ u = 4 ∨ u = 5 ∨ u = 6 by omega), if_pos e]
    exact R.fall hx hy e
  rw [if_neg (show ¬ (u = 3 ∨ u = 4 ∨ u = 5 ∨ u = 6) by omega), if_neg e]
  have hmu : monsterM u = true ↔ (8 ≤ u ∧ u ≤ 11) := decide_eq_true_iff
  by_cases f : 8 ≤ u ∧ u ≤ 11
  · rw [if_pos (hmu.mpr f), if_pos f]
    exact R.walk hx hy f
  rw [if_neg fun z => f (hmu.mp z), if_neg f]
  exact R
end
def toC (c : CM) (t : Nat) : Ge13.Cave := ⟨c.w, c.h, c.cells, c.st, c.pts, t⟩
theorem step_w {s : TS} (ok : s.Ok) (key i : Nat) : (stepM key s i).w = s.w ∧ (stepM key s i).h = s.h := let L := like_step ok (key := key) (i := i); ⟨L.w, L.h⟩
theorem RS.fold {t key w h : Nat} (hk : key ≤ 4) : ∀ (l : List Nat) {s : TS} {a : Ge13.Cave × Ge13.Marks}, (∀ i ∈ l, i < w * h) → s.w = w → s.h = h → RS t s a.1 a.2 →
    RS t (l.foldl (stepM key) s) (l.foldl (fun a i => placeS key a (i % w) (i / w)) a).1 (l.foldl (fun a i => placeS key a (i % w) (i / w)) a).2
  | [], _, _, _, _, _, R => R
  | i :: l, s, a, hl, hw, hh, R => by
    have L := step_w R.ok key i
    have R1 := R.place (i := i) (key := key) (by rw [hw, hh]; exact hl i (List.mem_cons_self ..)) hk
    rw [hw] at R1
    exact RS.fold hk l (fun j hj => hl j (List.mem_cons_of_mem _ hj)) (L.1.trans hw) (L.2.trans hh) R1
theorem tick_eq {c : CM} (ok : c.Ok) {t key : Nat} (hk : key ≤ 4) (h0 : c.st = 0) : Ge13.tick (toC c t) key = toC (tickM c key) (t + 1) := by
  have R0 : RS (t + 1) (ts0 c) (toC c (t + 1)) [] := ⟨rfl, ts0_ok ok, fun X Y hX hY => by
    show (List.replicate (c.w * c.h) false).getD _ false = _
    rw [List.getD_eq_getElem?_getD, List.getElem?_replicate]
    split <;> rfl⟩
  have R := RS.fold (t := t + 1) hk (List.range (c.w * c.h)) (w := c.w) (h := c.h) (s := ts0 c) (a := (toC c (t + 1), [])) (fun i hi => List.mem_range.mp hi) rfl rfl R0
  unfold Ge13.tick
  rw [if_neg (show ¬ ((toC c t).over ≠ 0) from fun z => z h0)]
  have e : ((List.range ((toC c t).w * (toC c t).h)).foldl (fun (a : Ge13.Cave × Ge13.Marks) i =>
    let x := i % (toC c t).w
    let y := i / (toC c t).w
    let v := Ge13.at_ a.1 x y
    if a.1.over ≠ 0 ∨ a.2.contains (x, y) = true then a else
      if v = 7 then Ge13.playerTurn a.1 a.2 x y key else if 3 ≤ v ∧ v ≤ 6 then Ge13.stoneTurn a.1 a.2 x y v else if 8 ≤ v ∧ v ≤ 11 then Ge13.monsterTurn a.1 a.2 x y v else a) ({ toC c t with ticks := (toC c t).ticks + 1 }, []))
    = (List.range (c.w * c.h)).foldl (fun a i => placeS key a (i % c.w) (i / c.w)) (toC c (t + 1), []) := rfl
  rw [e, R.e]
  rfl
end SC
/-! MC: caves read and written. -/
namespace SC
open PySem
/-- the text cut at its line ends, as the specification does it -/
def cutS (w : List Nat) : List (List Nat) := w.foldr (fun c (a : List (List Nat)) => if c = 10 then [] :: a else match a with
    | [] => [[c]]
    | x :: l => (c :: x) :: l) [[]]
def glue (b : List Nat) : List (List Nat) → List (List Nat)
  | [] => [b]
  | x :: r => (b ++ x) :: r
theorem cutS_ne : ∀ w : List Nat, ∃ x r, cutS w = x :: r
  | [] => ⟨[], [], rfl⟩
  | c :: w => by
    obtain ⟨x, r, e⟩ := cutS_ne w
    by_cases h : c = 10
    · exact ⟨[], cutS w, by show (if c = 10 then [] :: cutS w else _) = _; rw [if_pos h]⟩
    · refine ⟨c :: x, r, ?_⟩
      show (if c = 10 then [] :: cutS w else match cutS w with
        | [] => [[c]]
        | x :: l => (c :: x) :: l) = _
      rw [if_neg h, e]
theorem run_cut : ∀ (w : List Nat) (s : List (List Nat) × List Nat), (w.foldl rowsStep s).1 ++ [(w.foldl rowsStep s).2] = s.1 ++ glue s.2 (cutS w)
  | [], s => by
    show s.1 ++ [s.2] = s.1 ++ [s.2 ++ []]
    rw [List.append_nil]
  | c :: w, s => by
    rw [List.foldl_cons, run_cut w]
    obtain ⟨x, r, e⟩ := cutS_ne w
    by_cases h : c = 10
    · have e1 : rowsStep s c = (s.1 ++ [s.2], []) := if_pos h
      have e2 : cutS (c :: w) = [] :: cutS w := by show (if c = 10 then [] :: cutS w else _) = _; rw [if_pos h]
      rw [e1, e2, e]
      show (s.1 ++ [s.2]) ++ (([] ++ x) :: r) = s.1 ++ ((s.2 ++ []) :: x :: r)
      simp
    · have e1 : rowsStep s c = (s.1, s.2 ++ [c]) := if_neg h
      have e2 : cutS (c :: w) = (c :: x) :: r := by
        show (if c = 10 then [] :: cutS w else match cutS w with
          | [] => [[c]]
          | x :: l => (c :: x) :: l) = _
        rw [if_neg h, e]
      rw [e1, e2, e]
      show s.1 ++ (((s.2 ++ [c]) ++ x) :: r) = s.1 ++ ((s.2 ++ c :: x) :: r)
      simp
theorem rows_eq (w : List Nat) : (if (cutS w).getLast? = some [] then (cutS w).dropLast else cutS w) = rowsM w := by
  have h := run_cut w ([], [])
  obtain ⟨x, r, e⟩ := cutS_ne w
  have h2 : (rowsRun w).1 ++ [(rowsRun w).2] = cutS w := by
    have : glue [] (cutS w) = cutS w := by rw [e]; rfl
    rw [List.nil_append, this] at h
    exact h
  rw [← h2, List.getLast?_concat, List.dropLast_concat]
  unfold rowsM
  by_cases c : (rowsRun w).2 = []
  · rw [if_pos (by rw [c]), if_pos c]
  · rw [if_neg fun z => c (Option.some.inj z), if_neg c]
theorem all_rows (w : List Nat) : ((rowsM w).all fun x => x.all fun c => Ge13.signs.contains c) = w.all okB := by
  have h1 : ∀ rs : List (List Nat), (rs.all fun x => x.all fun c => Ge13.signs.contains c) = rs.flatten.all fun c => Ge13.signs.contains c := by
    intro rs
    induction rs with
    | nil => rfl
    | cons r rs ih => rw [List.all_cons, ih, List.flatten_cons, List.all_append]
  rw [h1, rows_flat]
  induction w with
  | nil => rfl
  | cons b w ih =>
    rw [List.all_cons, ← ih, List.filter_cons]
    unfold okB
    by_cases e : b = 10
    · subst e
      simp
    · have e2 : (b == 10) = false := by simpa using e
      rw [e2]
      simp only [Bool.not_false, if_true, List.all_cons, Bool.or_false]
      rfl
theorem idx_eq {b : Nat} (h : sgnL.contains b = true) : (Ge13.signs.findIdx? fun s => s == b).getD 0 = idxM b := by
  have hm : b ∈ sgnL := by simpa using h
  have hl : idxM b < sgnL.length := by
    unfold idxM
    exact List.findIdx_lt_length_of_exists ⟨b, hm, by simp⟩
  have e : (sgnL.findIdx? fun s => s == b) = some (idxM b) := by
    rw [List.findIdx?_eq_some_iff_findIdx_eq]
    exact ⟨hl, rfl⟩
  show ((sgnL.findIdx? fun s => s == b).getD 0) = _
  rw [e]; rfl
theorem idx7 {b : Nat} (h : sgnL.contains b = true) : idxM b = 7 ↔ b = 64 := by
  obtain ⟨g, _⟩ := idx_get h
  constructor
  · intro e
    rw [e] at g
    exact (Option.some.inj g).symm
  · intro e
    subst e
    rfl
theorem count7 : ∀ w : List Nat, w.all okB = true → (((w.filter fun b => !(b == 10)).map idxM).filter fun v => v == 7).length = w.count 64
  | [], _ => rfl
  | b :: w, h => by
    rw [List.all_cons, Bool.and_eq_true] at h
    have ih := count7 w h.2
    rw [List.filter_cons]
    by_cases e : b = 10
    · subst e
      rw [List.count_cons]
      simpa using ih
    · have e2 : (b == 10) = false := by simpa using e
      have hs : sgnL.contains b = true := by
        have := h.1
        unfold okB at this
        rw [e2, Bool.or_false] at this
        exact this
      rw [e2, List.count_cons]
      simp only [Bool.not_false, if_true, List.map_cons, List.filter_cons]
      by_cases f : b = 64
      · have g := (idx7 hs).mpr f
        rw [g, f]
        simp [ih]
      · have g : ¬ idxM b = 7 := fun z => f ((idx7 hs).mp z)
        have g1 : (idxM b == 7) = false := by simpa using g
        have g2 : (b == 64) = false := by simpa using f
        rw [g1, g2]
        simpa using ih
theorem map_idx (w : List Nat) (h : w.all okB = true) : (rowsM w).flatten.map (fun c => (Ge13.signs.findIdx? fun s => s == c).getD 0) = (w.filter fun b => !(b == 10)).map idxM := by
  rw [rows_flat]
  refine List.map_congr_left fun b hb => ?_
  obtain ⟨m1, m2⟩ := List.mem_filter.mp hb
  have := List.all_eq_true.mp h b m1
  have e : (b == 10) = false := by simpa using m2
  unfold okB at this
  rw [e, Bool.or_false] at this
  exact idx_eq this
theorem read_eq (w : List Nat) : Ge13.read w = if faultM w = 0 then .ok (toC (caveM w) 0) else .error (faultM w) := by
  have e : Ge13.read w = (let rows := rowsM w
    let n := (rows.headD []).length
    if (rows.all fun x => x.all fun c => Ge13.signs.contains c) = false then .error 1 else if (rows.all fun x => x.length == n) = false then .error 2 else if n = 0 ∨ 20 < n ∨ rows = [] ∨ 14 < rows.length then .error 3 else
      let cells := rows.flatten.map fun c => (Ge13.signs.findIdx? fun s => s == c).getD 0
      if (cells.filter fun v => v == 7).length ≠ 1 then .error 4 else .ok ⟨n, rows.length, cells, 0, 0, 0⟩) := by
    rw [← rows_eq]; rfl
  rw [e]
  dsimp only
  rw [all_rows]
  have ef : faultM w = if w.all okB = false then 1 else
    if rowsM w ≠ [] ∧ ((rowsM w).all fun r => r.length == ((rowsM w).headD []).length) = false then 2 else
    if rowsM w = [] ∨ (rowsM w).headD [] = [] ∨ 14 < (rowsM w).length ∨ 20 < ((rowsM w).headD []).length then 3 else
    if w.count 64 ≠ 1 then 4 else 0 := rfl
  by_cases h1 : w.all okB = false
  · rw [if_pos h1] at ef
    rw [if_pos h1, ef]; rfl
  have h1' : w.all okB = true := by simpa using h1
  rw [if_neg h1] at ef ⊢
  by_cases h2 : ((rowsM w).all fun x => x.length == ((rowsM w).headD []).length) = false
  · have ne : rowsM w ≠ [] := fun z => by rw [z] at h2; cases h2
    rw [if_pos ⟨ne, h2⟩] at ef
    rw [if_pos h2, ef]; rfl
  rw [if_neg fun z => h2 z.2] at ef
  rw [if_neg h2]
  by_cases h3 : rowsM w = [] ∨ (rowsM w).headD [] = [] ∨ 14 < (rowsM w).length ∨ 20 < ((rowsM w).headD []).length
  · rw [if_pos h3] at ef
    rw [if_pos (show ((rowsM w).headD []).length = 0 ∨ 20 < ((rowsM w).headD []).length ∨ rowsM w = [] ∨ 14 < (rowsM w).length from by
      rcases h3 with z | z | z | z
      · exact .inr (.inr (.inl z))
      · exact .inl (by rw [z]; rfl)
      · exact .inr (.inr (.inr z))
      · exact .inr (.inl z)), ef]
    rfl
  rw [if_neg h3] at ef
  rw [if_neg (show ¬ (((rowsM w).headD []).length = 0 ∨ 20 < ((rowsM w).headD []).length ∨ rowsM w = [] ∨ 14 < (rowsM w).length) from fun z => h3 (by
      rcases z with z | z | z | z
      · exact .inr (.inl (List.length_eq_zero_iff.mp z))
      · exact .inr (.inr (.inr z))
      · exact .inl z
      · exact .inr (.inr (.inl z))))]
  rw [map_idx w h1', count7 w h1']
  by_cases h4 : w.count 64 ≠ 1
  · rw [if_pos h4] at ef
    rw [if_pos h4, ef]; rfl
  rw [if_neg h4] at ef
  rw [if_neg h4, ef]
  rfl
theorem flatMap_eq {α β : Type} {f g : α → List β} : ∀ {l : List α}, (∀ y ∈ l, f y = g y) → l.flatMap f = l.flatMap g
  | [], _ => rfl
  | a :: l, h => by rw [List.flatMap_cons, List.flatMap_cons, h a (List.mem_cons_self ..), flatMap_eq fun y hy => h y (List.mem_cons_of_mem _ hy)]
theorem write_eq {c : CM} (ok : c.Ok) (t : Nat) : Ge13.write (toC c t) = c.text := by
  unfold Ge13.write CM.text
  refine flatMap_eq fun y hy => ?_
  have hy' : y < c.h := List.mem_range.mp hy
  unfold rowC
  congr 1
  refine List.ext_getElem? fun i => ?_
  rw [List.getElem?_map, List.getElem?_map]
  by_cases hi : i < c.w
  · have hl : y * c.w + i < c.cells.length := by rw [ok.lc]; exact idx_lt hi hy'
    rw [List.getElem?_take_of_lt hi, List.getElem?_drop, List.getElem?_eq_getElem hl]
    have hr : (List.range (toC c t).w)[i]? = some i := by rw [List.getElem?_range]; exact hi
    rw [hr]
    show some (Ge13.signs.getD (Ge13.at_ (toC c t) i y) 32) = some (sgnL.getD c.cells[y * c.w + i] 32)
    have ha : Ge13.at_ (toC c t) i y = c.cells[y * c.w + i] := by
      unfold Ge13.at_
      rw [if_pos (show i < (toC c t).w ∧ y < (toC c t).h from ⟨hi, hy'⟩)]
      show c.cells.getD (y * c.w + i) 2 = _
      rw [List.getD_eq_getElem?_getD, List.getElem?_eq_getElem hl]; rfl
    rw [ha]; rfl
  · have h1 : (List.range (toC c t).w)[i]? = none := List.getElem?_eq_none (by rw [List.length_range]; show c.w ≤ i; omega)
    have h2 : ((c.cells.drop (y * c.w)).take c.w)[i]? = none := List.getElem?_eq_none (by rw [List.length_take]; omega)
    rw [h1, h2]; rfl
theorem gems_eq (c : CM) (t : Nat) : Ge13.gems (toC c t) = c.gems := by
  have h : ∀ l : List Nat, (l.filter fun v => v == 5 || v == 6).length = l.count 5 + l.count 6 := by
    intro l
    induction l with
    | nil => rfl
    | cons a l ih =>
      rw [List.filter_cons, List.count_cons, List.count_cons]
      by_cases e5 : a = 5
      · subst e5
        simp [ih]
        omega
      · by_cases e6 : a = 6
        · subst e6
          simp [ih]
          omega
        · have z5 : (a == 5) = false := by simpa using e5
          have z6 : (a == 6) = false := by simpa using e6
          rw [z5, z6]
          simpa using ih
  exact h c.cells
theorem told_eq (c : CM) (t : Nat) : Ge13.told (toC c t) = [c.st, c.pts, t, c.gems] := by
  unfold Ge13.told
  rw [gems_eq]; rfl
end SC
/-! MD: games: the mirror is the specification's. -/
namespace SC
open PySem
/-- a game, on both sides, whatever is held -/
structure RelH (a : GM) (b : Ge13.Game) : Prop where
  ok : a.Ok
  keys : b.keys = a.keys
  rest : b.rest = a.left
  step : b.step = a.length
  play : ∀ k, k ≤ a.keys.length → Ge13.playTo b k = toC (a.cave k) k
  now : b.now = toC a.now a.keys.length
structure RelG (a : GM) (b : Ge13.Game) : Prop where
  h : RelH a b
  held : b.held = a.held
theorem RelH.over {a : GM} {b : Ge13.Game} (R : RelH a b) : b.now.over = a.now.st := by rw [R.now]; rfl
theorem RelH.hold {a : GM} {b : Ge13.Game} (R : RelH a b) (k : Nat) : RelH a { b with held := k } := ⟨R.ok, R.keys, R.rest, R.step, R.play, R.now⟩
theorem cave_app {m : GM} (ok : m.Ok) {c : CM} {k : Nat} (key : Nat) (h : k ≤ m.keys.length) : ({ m with caves := m.caves ++ [c], keys := m.keys ++ [key] } : GM).cave k = m.cave k := by
  unfold GM.cave
  show (m.caves ++ [c]).getD k cave0M = m.caves.getD k cave0M
  rw [List.getD_eq_getElem?_getD, List.getElem?_append_left (by rw [ok.lc]; omega), ← List.getD_eq_getElem?_getD]
theorem RelH.tick {a : GM} {b : Ge13.Game} (R : RelH a b) {key : Nat} (hk : key ≤ 4) (hl : a.now.st = 0 → a.keys.length < 400) : RelH (a.tick key) (Ge13.tickOn { b with held := key }) := by
  unfold Ge13.tickOn
  by_cases c : a.now.st = 0
  · rw [tick_go c, if_neg (show ¬ (({ b with held := key } : Ge13.Game).now.over ≠ 0) from fun z => z (R.over.trans c))]
    have okn := tick_ok R.ok hk hl
    rw [tick_go c] at okn
    have hkeys : b.keys ++ [key] = a.keys ++ [key] := by rw [R.keys]
    have hnow : Ge13.tick b.now key = toC (tickM a.now key) (a.keys.length + 1) := by rw [R.now]; exact tick_eq (cave_ok R.ok (Nat.le_refl _)) hk c
    have hlast : ({ a with caves := a.caves ++ [tickM a.now key], keys := a.keys ++ [key] } : GM).now = tickM a.now key := now_app R.ok
    refine ⟨okn, hkeys, R.rest, R.step, fun k hk2 => ?_, ?_⟩
    · have hk3 : k ≤ a.keys.length + 1 := by
        have : (a.keys ++ [key]).length = a.keys.length + 1 := by rw [List.length_append]; rfl
        exact this ▸ hk2
      by_cases e : k = a.keys.length + 1
      · subst e
        show ((b.keys ++ [key]).take (a.keys.length + 1)).foldl Ge13.tick b.first = _
        rw [hkeys, List.take_of_length_le (by rw [List.length_append]; exact Nat.le_refl _), List.foldl_append]
        have p := R.play a.keys.length (Nat.le_refl _)
        unfold Ge13.playTo at p
        rw [R.keys, List.take_of_length_le (Nat.le_refl _)] at p
        rw [p]
        show Ge13.tick (toC (a.cave a.keys.length) a.keys.length) key = _
        have h2 : ({ a with caves := a.caves ++ [tickM a.now key], keys := a.keys ++ [key] } : GM).cave (a.keys.length + 1) = tickM a.now key := by
          have : ({ a with caves := a.caves ++ [tickM a.now key], keys := a.keys ++ [key] } : GM).now = ({ a with caves := a.caves ++ [tickM a.now key], keys := a.keys ++ [key] } : GM).cave (a.keys ++ [key]).length := rfl
          rw [List.length_append] at this
          exact this.symm.trans hlast
        rw [h2]
        exact tick_eq (cave_ok R.ok (Nat.le_refl _)) hk c
      · have hle : k ≤ a.keys.length := by omega
        show ((b.keys ++ [key]).take k).foldl Ge13.tick b.first = _
        rw [List.take_append_of_le_length (by rw [R.keys]; exact hle), cave_app R.ok key hle]
        exact R.play k hle
    · show Ge13.tick b.now key = _
      rw [hlast, hnow]
      show _ = toC _ (a.keys ++ [key]).length
      rw [List.length_append]; rfl
  · rw [tick_no c, if_pos (show ({ b with held := key } : Ge13.Game).now.over ≠ 0 from fun z => c (R.over.symm.trans z))]
    exact R.hold key
theorem tickOn_held (g : Ge13.Game) : (Ge13.tickOn g).held = g.held := by unfold Ge13.tickOn; split <;> rfl
theorem RelG.ticks {n : Nat} : ∀ {a : GM} {b : Ge13.Game}, RelG a b → (a.now.st = 0 → a.keys.length + n ≤ 400) → RelG (GM.ticks n a) (Ge13.ticksOn n b) := by
  induction n with
  | zero => exact fun R _ => R
  | succ n ih =>
    intro a b R hn
    have e : ({ b with held := a.held } : Ge13.Game) = b := by rw [← R.held]
    have R1 := R.h.tick R.h.ok.h4 fun c => by have := hn c; omega
    rw [e] at R1
    refine ih ⟨R1, ?_⟩ fun c => ?_
    · rw [tickOn_held, tick_held]; exact R.held
    · by_cases c0 : a.now.st = 0
      · have := hn c0
        rw [tick_go c0]
        show (a.keys ++ [a.held]).length + n ≤ 400
        rw [List.length_append]
        show a.keys.length + 1 + n ≤ 400
        omega
      · rw [tick_no c0] at c
        exact absurd c c0
theorem RelG.frame {a : GM} {b : Ge13.Game} (R : RelG a b) {p : Nat} (h : a.now.st = 0 → a.keys.length + a.due p ≤ 400) : RelG (a.frame p) (Ge13.frame b p) := by
  unfold GM.frame Ge13.frame
  have e : (b.rest + p) / b.step = a.due p := by rw [R.h.rest, R.h.step]; rfl
  rw [e]
  refine RelG.ticks ⟨⟨frame_ok R.h.ok, R.h.keys, ?_, R.h.step, R.h.play, R.h.now⟩, R.held⟩ h
  show (b.rest + p) % b.step = (a.left + p) % a.length
  rw [R.h.rest, R.h.step]
theorem RelG.fold {a0 : GM} {b0 : Ge13.Game} (R0 : RelG a0 b0) (l : List Nat) (h4 : ∀ k ∈ l, k ≤ 4) (hn : a0.now.st = 0 → a0.keys.length + l.length ≤ 400) :
    RelG (l.foldl GM.tick a0) { l.foldl (fun x k => Ge13.tickOn { x with held := k }) b0 with held := b0.held } := by
  have run := fold_ok R0.h.ok h4 hn
  have key : ∀ i, i ≤ l.length → RelH ((l.take i).foldl GM.tick a0) ((l.take i).foldl (fun x k => Ge13.tickOn { x with held := k }) b0) ∧ ((l.take i).foldl GM.tick a0).held = a0.held := by
    intro i
    induction i with
    | zero => exact fun _ => ⟨R0.h, rfl⟩
    | succ i ih =>
      intro hi
      obtain ⟨h1, h2⟩ := ih (Nat.le_of_succ_le hi)
      obtain ⟨q1, q2, q3⟩ := run i (Nat.le_of_succ_le hi)
      have hg : l[i]? = some l[i] := List.getElem?_eq_getElem hi
      rw [take_snoc hg, List.foldl_append, List.foldl_append]
      refine ⟨h1.tick (h4 _ (List.getElem_mem _)) fun c => by have := hn (q3 c); omega, ?_⟩
      show (((l.take i).foldl GM.tick a0).tick l[i]).held = _
      rw [tick_held, h2]
  have k := key l.length (Nat.le_refl _)
  rw [List.take_length] at k
  refine ⟨k.1.hold b0.held, ?_⟩
  rw [k.2]
  exact R0.held
theorem RelG.takeLen {a : GM} {b : Ge13.Game} (R : RelG a b) {l : Nat} (h1 : 1 ≤ l) (h2 : l ≤ 100) : RelG (a.takeLen l) { b with step := l, rest := min b.rest (l - 1) } :=
  ⟨⟨take_ok R.h.ok h1 h2, R.h.keys, by show min b.rest (l - 1) = min a.left (l - 1); rw [R.h.rest], rfl, R.h.play, R.h.now⟩, R.held⟩
theorem RelG.back {a : GM} {b : Ge13.Game} (R : RelG a b) {k : Nat} (h : k ≤ a.keys.length) : RelG (a.back k) { b with keys := b.keys.take k, now := Ge13.playTo b k, rest := 0 } := by
  have lk : (a.back k).keys.length = k := by show (a.keys.take k).length = k; rw [List.length_take]; omega
  have cv : ∀ j, j ≤ k → (a.back k).cave j = a.cave j := fun j hj => by
    unfold GM.cave
    show (a.caves.take (k + 1)).getD j cave0M = a.caves.getD j cave0M
    rw [List.getD_eq_getElem?_getD, List.getElem?_take_of_lt (by omega), ← List.getD_eq_getElem?_getD]
  refine ⟨⟨back_ok R.h.ok h, by show b.keys.take k = a.keys.take k; rw [R.h.keys], rfl, R.h.step, fun j hj => ?_, ?_⟩, R.held⟩
  · rw [lk] at hj
    show ((b.keys.take k).take j).foldl Ge13.tick b.first = _
    rw [List.take_take, Nat.min_eq_left hj, cv j hj]
    exact R.h.play j (by omega)
  · show Ge13.playTo b k = toC ((a.back k).cave (a.back k).keys.length) _
    rw [lk, cv k (Nat.le_refl _)]
    exact R.h.play k h
theorem RelG.new {c : CM} (ok : c.Ok) {l : Nat} (h1 : 1 ≤ l) (h2 : l ≤ 100) : RelG (GM.new c l) { Ge13.game0 (toC c 0) with step := l } :=
  ⟨⟨new_ok ok h1 h2, rfl, rfl, rfl, fun k hk => by
    have : k = 0 := Nat.le_zero.mp hk
    subst this
    rfl, rfl⟩, rfl⟩
theorem like_iff {c d : CM} (h1 : c.Ok) (h2 : d.Ok) (t : Nat) : c.like d = true ↔ toC c t = toC d t := by
  unfold CM.like
  rw [decide_eq_true_iff]
  constructor
  · rintro ⟨e1, e2, e3, e4⟩
    have hh : c.h = d.h := by
      have q1 := h1.lc
      rw [e2, h2.lc, e1] at q1
      exact (Nat.eq_of_mul_eq_mul_left h2.hw.1 q1).symm
    unfold toC
    rw [e1, e2, e3, e4, hh]
  · intro e
    exact ⟨congrArg Ge13.Cave.w e, congrArg Ge13.Cave.cells e, congrArg Ge13.Cave.over e, congrArg Ge13.Cave.points e⟩
theorem bne_like {c d : CM} (h1 : c.Ok) (h2 : d.Ok) (t : Nat) : (toC c t != toC d t) = !(c.like d) := by
  have e : (toC c t == toC d t) = c.like d := by
    rw [Bool.eq_iff_iff, beq_iff_eq]
    exact (like_iff h1 h2 t).symm
  show (!(toC c t == toC d t)) = _
  rw [e]
theorem play_succ {a : GM} {b : Ge13.Game} (R : RelH a b) {i k : Nat} (h : a.keys[i]? = some k) : Ge13.tick (Ge13.playTo b i) k = Ge13.playTo b (i + 1) := by
  unfold Ge13.playTo
  rw [R.keys, take_snoc h, List.foldl_append]; rfl
theorem first_other {a1 a2 : GM} {b1 b2 : Ge13.Game} (R1 : RelH a1 b1) (R2 : RelH a2 b2) : ∀ (n i : Nat), n = a1.keys.length - i → i ≤ a1.keys.length → i ≤ a2.keys.length →
    (∀ j c d, j < i → a1.caves[j]? = some c → a2.caves[j]? = some d → c.like d = true) →
    Ge13.firstFrom (a1.keys.drop i) (a2.keys.drop i) i (Ge13.playTo b1 i) (Ge13.playTo b2 i) = a1.parts a2 := by
  intro n
  induction n with
  | zero =>
    intro i hn h1 h2 hp
    have g1 := cave_get R1.ok h1
    have g2 := cave_get R2.ok h2
    have e1 : a1.keys.drop i = [] := List.drop_eq_nil_of_le (by omega)
    rw [e1, R1.play i h1, R2.play i h2]
    show (if (toC (a1.cave i) i != toC (a2.cave i) i) = true then some i else none) = _
    rw [bne_like (cave_ok R1.ok h1) (cave_ok R2.ok h2)]
    cases c : (a1.cave i).like (a2.cave i) with
    | false => rw [parts_some g1 g2 c hp]; rfl
    | true =>
      rw [parts_none (i := i + 1) (.inl (by rw [R1.ok.lc]; omega)) fun j c' d' hj z1 z2 => ?_]
      · rfl
      · rcases Nat.lt_succ_iff_lt_or_eq.mp hj with l | l
        · exact hp j c' d' l z1 z2
        · subst l
          rw [g1] at z1; rw [g2] at z2
          cases z1; cases z2
          exact c
  | succ n ih =>
    intro i hn h1 h2 hp
    have g1 := cave_get R1.ok h1
    have g2 := cave_get R2.ok h2
    have hi1 : i < a1.keys.length := by omega
    have k1 : a1.keys[i]? = some a1.keys[i] := List.getElem?_eq_getElem hi1
    have upto : (a1.cave i).like (a2.cave i) = true → ∀ j c d, j < i + 1 → a1.caves[j]? = some c → a2.caves[j]? = some d → c.like d = true := fun c j c' d' hj z1 z2 => by
      rcases Nat.lt_succ_iff_lt_or_eq.mp hj with l | l
      · exact hp j c' d' l z1 z2
      · subst l
        rw [g1] at z1; rw [g2] at z2
        cases z1; cases z2
        exact c
    by_cases hi2 : i < a2.keys.length
    · have k2 : a2.keys[i]? = some a2.keys[i] := List.getElem?_eq_getElem hi2
      rw [List.drop_eq_getElem_cons hi1, List.drop_eq_getElem_cons hi2]
      show (if (Ge13.playTo b1 i != Ge13.playTo b2 i) = true then some i else Ge13.firstFrom (a1.keys.drop (i + 1)) (a2.keys.drop (i + 1)) (i + 1) (Ge13.tick (Ge13.playTo b1 i) a1.keys[i]) (Ge13.tick (Ge13.playTo b2 i) a2.keys[i])) = _
      rw [play_succ R1 k1, play_succ R2 k2]
      have ee : (Ge13.playTo b1 i != Ge13.playTo b2 i) = !((a1.cave i).like (a2.cave i)) := by
        rw [R1.play i h1, R2.play i h2]
        exact bne_like (cave_ok R1.ok h1) (cave_ok R2.ok h2) i
      rw [ee]
      cases c : (a1.cave i).like (a2.cave i) with
      | false => rw [parts_some g1 g2 c hp]; rfl
      | true =>
        show Ge13.firstFrom (a1.keys.drop (i + 1)) (a2.keys.drop (i + 1)) (i + 1) (Ge13.playTo b1 (i + 1)) (Ge13.playTo b2 (i + 1)) = _
        exact ih (i + 1) (by omega) hi1 hi2 (upto c)
    · have e2 : a2.keys.drop i = [] := List.drop_eq_nil_of_le (by omega)
      rw [e2, List.drop_eq_getElem_cons hi1, R1.play i h1, R2.play i h2]
      show (if (toC (a1.cave i) i != toC (a2.cave i) i) = true then some i else none) = _
      rw [bne_like (cave_ok R1.ok h1) (cave_ok R2.ok h2)]
      cases c : (a1.cave i).like (a2.cave i) with
      | false => rw [parts_some g1 g2 c hp]; rfl
      | true => rw [parts_none (i := i + 1) (.inr (by rw [R2.ok.lc]; omega)) (upto c)]; rfl
theorem other_eq {a1 a2 : GM} {b1 b2 : Ge13.Game} (R1 : RelH a1 b1) (R2 : RelH a2 b2) : Ge13.firstOther b1 b2 = a1.parts a2 := by
  unfold Ge13.firstOther
  rw [R1.keys, R2.keys]
  exact first_other R1 R2 _ 0 rfl (Nat.zero_le _) (Nat.zero_le _) fun j _ _ hj => absurd hj (Nat.not_lt_zero _)
end SC
/-! ME: the desk: each call, on both sides. -/
namespace SC
open PySem
structure RelD (m : DeskM) (g : Ge13.St) : Prop where
  game : RelG m.game g.game
  kept : ∀ n, (m.kept n = none ∧ Ge13.slot g n = none) ∨ ∃ a b, m.kept n = some a ∧ Ge13.slot g n = some b ∧ RelG a b
/-- a call's answer and what stands behind it -/
def StepOk (m : DeskM) (g : Ge13.St) (o : Out) (x : Ge13.Call) : Prop := (Ge13.step g x).2 = (dAns o m).1 ∧ RelD (dAns o m).2 (Ge13.step g x).1
section
variable {m : DeskM} {g : Ge13.St}
theorem StepOk.no (R : RelD m g) {n : Int} {x : Ge13.Call} (h : Ge13.step g x = (g, [n])) : StepOk m g (.no n) x := by
  unfold StepOk
  rw [h]
  exact ⟨rfl, R⟩
theorem RelD.put (R : RelD m g) {a : GM} {b : Ge13.Game} (h : RelG a b) : RelD { m with game := a } { g with game := b } := ⟨h, R.kept⟩
theorem StepOk.yes {m' : DeskM} {g' : Ge13.St} {l : List Nat} {x : Ge13.Call} {out : List Int} (h : Ge13.step g x = (g', out)) (R : RelD m' g') (e : out = Ge13.ints l) : StepOk m g (.yes l m') x := by
  unfold StepOk
  rw [h, e]
  exact ⟨rfl, R⟩
theorem all_any (n : Nat) (l : List Nat) : ((l.all fun c => decide (c ≤ n)) = false) ↔ ((l.any fun c => decide (n < c)) = true) := by
  induction l with
  | nil => simp
  | cons a l ih =>
    rw [List.all_cons, List.any_cons, Bool.and_eq_false_iff, Bool.or_eq_true_iff, ih, decide_eq_false_iff_not, decide_eq_true_iff, Nat.not_le]
theorem stands_told {a : GM} {b : Ge13.Game} (R : RelH a b) : Ge13.told b.now = a.stands := by rw [R.now, told_eq]; rfl
theorem step_hold (R : RelD m g) (k : Nat) : StepOk m g (dHold m k) (.hold k) := by
  unfold dHold
  by_cases c : 4 < k
  · rw [if_pos c]
    exact .no R (if_pos c)
  · rw [if_neg c]
    refine .yes (if_neg c) (R.put ⟨⟨held_ok R.game.h.ok (by omega), R.game.h.keys, R.game.h.rest, R.game.h.step, R.game.h.play, R.game.h.now⟩, rfl⟩) rfl
theorem step_speed (R : RelD m g) (s : Nat) : StepOk m g (dSpeed m s) (.speed s) := by
  unfold dSpeed
  by_cases c : 1 ≤ s ∧ s ≤ 100
  · rw [if_pos c]
    exact .yes (if_neg (show ¬ (s = 0 ∨ 100 < s) by omega)) (R.put (R.game.takeLen c.1 c.2)) rfl
  · rw [if_neg c]
    exact .no R (if_pos (show s = 0 ∨ 100 < s by omega))
theorem step_frame (R : RelD m g) (p : Nat) : StepOk m g (dFrame m p) (.frame p) := by
  unfold dFrame
  by_cases c : 1000 < p
  · rw [if_pos c]
    exact .no R (if_pos c)
  rw [if_neg c]
  have ed : (g.game.rest + p) / g.game.step = m.game.due p := by rw [R.game.h.rest, R.game.h.step]; rfl
  have need : (m.game.need (m.game.due p) = true) ↔ (400 < g.game.keys.length + (g.game.rest + p) / g.game.step ∧ g.game.now.over = 0) := by
    unfold GM.need
    rw [decide_eq_true_iff, ed, R.game.h.keys, R.game.h.over]
    exact And.comm
  have es : Ge13.step g (.frame p) = if 1000 < p then (g, [-1]) else if 400 < g.game.keys.length + (g.game.rest + p) / g.game.step ∧ g.game.now.over = 0 then (g, [-5]) else
    ({ g with game := Ge13.frame g.game p }, Ge13.ints (Ge13.told (Ge13.frame g.game p).now ++ [(Ge13.frame g.game p).rest])) := rfl
  rw [if_neg c] at es
  by_cases n : m.game.need (m.game.due p) = true
  · rw [if_pos n]
    rw [if_pos (need.mp n)] at es
    exact .no R es
  · rw [if_neg n]
    rw [if_neg fun z => n (need.mpr z)] at es
    have F := R.game.frame (p := p) (need_no (by simpa using n))
    exact .yes es (R.put F) (by rw [stands_told F.h, F.h.rest])
theorem find_filter (n j : Nat) : ∀ l : List (Nat × Ge13.Game), ((l.filter fun x => x.1 != n).find? fun x => x.1 == j) = if j = n then none else l.find? fun x => x.1 == j
  | [] => by split <;> rfl
  | a :: l => by
    have ih := find_filter n j l
    rw [List.filter_cons]
    by_cases e : a.1 = n
    · have e2 : (a.1 != n) = false := by simp [e]
      rw [e2, if_neg Bool.false_ne_true, ih]
      by_cases f : j = n
      · rw [if_pos f, if_pos f]
      · rw [if_neg f, if_neg f, List.find?_cons]
        have e3 : (a.1 == j) = false := by rw [e]; simpa using fun z => f z.symm
        rw [e3]
    · have e2 : (a.1 != n) = true := by simpa using e
      rw [e2, if_pos rfl, List.find?_cons, List.find?_cons, ih]
      by_cases f : j = n
      · have e3 : (a.1 == j) = false := by rw [f]; simpa using e
        rw [e3, if_pos f]
      · rw [if_neg f, if_neg f]
theorem step_save (R : RelD m g) (n : Nat) : StepOk m g (dSave m n) (.save n) := by
  unfold dSave
  by_cases c : 9 < n
  · rw [if_pos c]
    exact .no R (if_pos c)
  rw [if_neg c]
  refine .yes (if_neg c) ⟨R.game, fun j => ?_⟩ ?_
  · have es : Ge13.slot { g with slots := (g.slots.filter fun x => x.1 != n) ++ [(n, g.game)] } j = if j = n then some g.game else Ge13.slot g j := by
      unfold Ge13.slot
      show (((g.slots.filter fun x => x.1 != n) ++ [(n, g.game)]).find? fun x => x.1 == j).map _ = _
      rw [List.find?_append, find_filter]
      by_cases f : j = n
      · subst f
        rw [if_pos rfl, if_pos rfl]
        simp
      · rw [if_neg f, if_neg f]
        have e3 : (n == j) = false := by simpa using fun z => f z.symm
        simp [List.find?_cons, e3]
    rw [es]
    show (putN m.kept n m.game j = none ∧ _) ∨ ∃ a b, putN m.kept n m.game j = some a ∧ _
    unfold putN
    by_cases f : j = n
    · rw [if_pos f, if_pos f]
      exact .inr ⟨m.game, g.game, rfl, rfl, R.game⟩
    · rw [if_neg f, if_neg f]
      exact R.kept j
  · rw [R.game.h.now]; rfl
theorem step_load (R : RelD m g) (n : Nat) : StepOk m g (dLoad m n) (.load n) := by
  unfold dLoad
  have es : Ge13.step g (.load n) = match Ge13.slot g n with
    | none => (g, [-2])
    | some x => ({ g with game := x }, Ge13.ints (Ge13.told x.now ++ [x.rest])) := rfl
  rcases R.kept n with ⟨q1, q2⟩ | ⟨a, b, q1, q2, q3⟩
  · rw [q1]
    rw [q2] at es
    exact .no R es
  · rw [q1]
    rw [q2] at es
    exact .yes es (R.put q3) (by rw [stands_told q3.h, q3.h.rest])
theorem step_shows (R : RelD m g) : StepOk m g (.yes (m.game.now.text.length :: m.game.now.text) m) .shows := by
  have e : Ge13.write g.game.now = m.game.now.text := by rw [R.game.h.now]; exact write_eq (cave_ok R.game.h.ok (Nat.le_refl _)) _
  exact .yes (g' := g) (out := Ge13.ints ((Ge13.write g.game.now).length :: Ge13.write g.game.now)) rfl R (by rw [e])
theorem step_place (R : RelD m g) (x y : Nat) : StepOk m g (dPlace m x y) (.place x y) := by
  unfold dPlace
  have okc := cave_ok R.game.h.ok (Nat.le_refl _)
  have hw : g.game.now.w = m.game.now.w := by rw [R.game.h.now]; rfl
  have hh : g.game.now.h = m.game.now.h := by rw [R.game.h.now]; rfl
  have es : Ge13.step g (.place x y) = (g, if g.game.now.w ≤ x ∨ g.game.now.h ≤ y then [-2] else Ge13.ints [Ge13.at_ g.game.now x y]) := rfl
  rw [hw, hh] at es
  by_cases c : m.game.now.w ≤ x ∨ m.game.now.h ≤ y
  · rw [if_pos c]
    rw [if_pos c] at es
    exact .no R es
  · rw [if_neg c]
    rw [if_neg c] at es
    refine .yes es R ?_
    have hx : x < m.game.now.w := by omega
    have hy : y < m.game.now.h := by omega
    have ea : Ge13.at_ g.game.now x y = m.game.now.cells.getD (y * m.game.now.w + x) 0 := by
      rw [R.game.h.now]
      unfold Ge13.at_
      rw [if_pos (show x < (toC m.game.now m.game.keys.length).w ∧ y < (toC m.game.now m.game.keys.length).h from ⟨hx, hy⟩)]
      show m.game.now.cells.getD (y * m.game.now.w + x) 2 = _
      have hg := cells_get okc hx hy
      rw [List.getD_eq_getElem?_getD, show m.game.now.cells[y * m.game.now.w + x]? = _ from hg]; rfl
    rw [ea]
theorem step_seen (R : RelD m g) (k : Nat) : StepOk m g (dSeen m k) (.seen k) := by
  unfold dSeen
  have es : Ge13.step g (.seen k) = (g, if g.game.keys.length < k then [-2] else Ge13.ints (Ge13.told (Ge13.playTo g.game k) ++ ((Ge13.write (Ge13.playTo g.game k)).length :: Ge13.write (Ge13.playTo g.game k)))) := rfl
  rw [R.game.h.keys] at es
  by_cases c : m.game.keys.length < k
  · rw [if_pos c]
    rw [if_pos c] at es
    exact .no R es
  · rw [if_neg c]
    rw [if_neg c, R.game.h.play k (by omega), told_eq, write_eq (cave_ok R.game.h.ok (by omega))] at es
    exact .yes es R rfl
theorem step_back (R : RelD m g) (k : Nat) : StepOk m g (dBack m k) (.back k) := by
  unfold dBack
  have es : Ge13.step g (.back k) = if g.game.keys.length < k then (g, [-2]) else
    ({ g with game := { g.game with keys := g.game.keys.take k, now := Ge13.playTo g.game k, rest := 0 } }, Ge13.ints (Ge13.told (Ge13.playTo g.game k))) := rfl
  have hk : g.game.keys.length = m.game.keys.length := by rw [R.game.h.keys]
  rw [hk] at es
  by_cases c : m.game.keys.length < k
  · rw [if_pos c]
    rw [if_pos c] at es
    exact .no R es
  · rw [if_neg c]
    rw [if_neg c] at es
    have B := R.game.back (k := k) (by omega)
    exact .yes es (R.put B) (by rw [← stands_told B.h])
theorem step_keys (R : RelD m g) : StepOk m g (.yes (m.game.keys.length :: m.game.keys) m) .keys :=
  .yes (g' := g) (out := Ge13.ints (g.game.keys.length :: g.game.keys)) rfl R (by rw [R.game.h.keys])
theorem step_play (R : RelD m g) (l : List Nat) : StepOk m g (dPlay m l) (.play l) := by
  unfold dPlay
  have es : Ge13.step g (.play l) = if 100 < l.length ∨ (l.all fun k => decide (k ≤ 4)) = false then (g, [-1]) else if 400 < g.game.keys.length + l.length ∧ g.game.now.over = 0 then (g, [-5]) else
    ({ g with game := { l.foldl (fun x k => Ge13.tickOn { x with held := k }) g.game with held := g.game.held } }, Ge13.ints (Ge13.told (l.foldl (fun x k => Ge13.tickOn { x with held := k }) g.game).now)) := rfl
  by_cases c : 100 < l.length ∨ (l.any fun k => decide (4 < k)) = true
  · rw [if_pos c]
    rw [if_pos (c.imp id (all_any 4 l).mpr)] at es
    exact .no R es
  rw [if_neg c]
  rw [if_neg fun z => c (z.imp id (all_any 4 l).mp)] at es
  have need : (m.game.need l.length = true) ↔ (400 < g.game.keys.length + l.length ∧ g.game.now.over = 0) := by
    unfold GM.need
    rw [decide_eq_true_iff, R.game.h.keys, R.game.h.over]
    exact And.comm
  by_cases n : m.game.need l.length = true
  · rw [if_pos n]
    rw [if_pos (need.mp n)] at es
    exact .no R es
  · rw [if_neg n]
    rw [if_neg fun z => n (need.mpr z)] at es
    have h4 : ∀ k ∈ l, k ≤ 4 := fun k hk => by
      have hb : (l.any fun k => decide (4 < k)) = false := by simpa using fun z => c (.inr z)
      have := List.any_eq_false.mp hb k hk
      simpa using this
    have F := R.game.fold l h4 (need_no (by simpa using n))
    refine .yes es (R.put F) ?_
    have := stands_told F.h
    rw [← this]
theorem step_counts (R : RelD m g) : StepOk m g (.yes ((List.range 13).map fun v => m.game.now.cells.count v) m) .counts := by
  refine .yes (g' := g) (out := Ge13.ints ((List.range 13).map fun v => (g.game.now.cells.filter fun u => u == v).length)) rfl R ?_
  have e : g.game.now.cells = m.game.now.cells := by rw [R.game.h.now]; rfl
  rw [e]
  congr 1
  refine List.map_congr_left fun v _ => ?_
  rw [List.count_eq_countP, List.countP_eq_length_filter]
theorem step_differ (R : RelD m g) (n : Nat) : StepOk m g (dDiffer m n) (.differ n) := by
  unfold dDiffer
  have es : Ge13.step g (.differ n) = (g, match Ge13.slot g n with
    | none => [-2]
    | some x => match Ge13.firstOther g.game x with
      | none => [-6]
      | some k => Ge13.ints [k]) := rfl
  rcases R.kept n with ⟨q1, q2⟩ | ⟨a, b, q1, q2, q3⟩
  · rw [q1]
    rw [q2] at es
    exact .no R es
  · rw [q1]
    rw [q2] at es
    dsimp only at es ⊢
    rw [other_eq R.game.h q3.h] at es
    cases e : m.game.parts a with
    | none => rw [e] at es; exact .no R es
    | some k => rw [e] at es; exact .yes es R rfl
theorem step_cave (R : RelD m g) (l : List Nat) : StepOk m g (dCave m l) (.cave l) := by
  unfold dCave
  have es : Ge13.step g (.cave l) = if 300 < l.length ∨ (l.all fun c => decide (c ≤ 255)) = false then (g, [-1]) else (match Ge13.read l with
    | .error e => (g, [-10 - (e : Int)])
    | .ok c => ({ g with game := { Ge13.game0 c with step := g.game.step } }, Ge13.ints (Ge13.told c ++ [c.w, c.h]))) := rfl
  by_cases c : 300 < l.length ∨ (l.any fun b => decide (255 < b)) = true
  · rw [if_pos c]
    rw [if_pos (c.imp id (all_any 255 l).mpr)] at es
    exact .no R es
  rw [if_neg c]
  rw [if_neg fun z => c (z.imp id (all_any 255 l).mp), read_eq] at es
  by_cases f : faultM l = 0
  · rw [if_neg (show ¬ 0 < faultM l by omega)]
    rw [if_pos f] at es
    have okl := R.game.h.ok.hl
    have N := RelG.new (caveM_ok f) okl.1 okl.2
    rw [← R.game.h.step] at N ⊢
    refine .yes es (R.put N) ?_
    rw [told_eq]; rfl
  · rw [if_pos (show 0 < faultM l by omega)]
    rw [if_neg f] at es
    exact .no R es
end
end SC
/-! MF: a line of calls. -/
namespace SC
open PySem
theorem l0 {l : List Nat} (h : l.length = 0) : l = [] := List.length_eq_zero_iff.mp h
theorem l1 {l : List Nat} (h : l.length = 1) : ∃ a, l = [a] := List.length_eq_one_iff.mp h
theorem l2 {l : List Nat} (h : l.length = 2) : ∃ a b, l = [a, b] := by
  match l, h with
  | [a, b], _ => exact ⟨a, b, rfl⟩
/-- each call, on both sides -/
theorem step_all {m : DeskM} {g : Ge13.St} (R : RelD m g) {c : CallM} (ok : c.Ok) : ∃ x, Ge13Neutral.callIn (c.call :: (c.nums ++ c.row)) = some x ∧ StepOk m g (dDone m c.call c.nums c.row) x := by
  obtain ⟨call, nums, row⟩ := c
  obtain ⟨h13, ln, lr, no⟩ := ok
  dsimp only at h13 ln lr no ⊢
  have e : call = 0 ∨ call = 1 ∨ call = 2 ∨ call = 3 ∨ call = 4 ∨ call = 5 ∨ call = 6 ∨ call = 7 ∨ call = 8 ∨ call = 9 ∨ call = 10 ∨ call = 11 ∨ call = 12 ∨ call = 13 := by omega
  rcases e with rfl | rfl | rfl | rfl | rfl | rfl | rfl | rfl | rfl | rfl | rfl | rfl | rfl | rfl
  · rw [l0 ln]
    exact ⟨.cave row, rfl, step_cave R row⟩
  · obtain ⟨a, rfl⟩ := l1 ln
    rw [no (by omega)]
    exact ⟨.hold a, rfl, step_hold R a⟩
  · obtain ⟨a, rfl⟩ := l1 ln
    rw [no (by omega)]
    exact ⟨.frame a, rfl, step_frame R a⟩
  · obtain ⟨a, rfl⟩ := l1 ln
    rw [no (by omega)]
    exact ⟨.speed a, rfl, step_speed R a⟩
  · obtain ⟨a, rfl⟩ := l1 ln
    rw [no (by omega)]
    exact ⟨.save a, rfl, step_save R a⟩
  · obtain ⟨a, rfl⟩ := l1 ln
    rw [no (by omega)]
    exact ⟨.load a, rfl, step_load R a⟩
  · rw [l0 ln, no (by omega)]
    exact ⟨.shows, rfl, step_shows R⟩
  · obtain ⟨a, b, rfl⟩ := l2 ln
    rw [no (by omega)]
    exact ⟨.place a b, rfl, step_place R a b⟩
  · obtain ⟨a, rfl⟩ := l1 ln
    rw [no (by omega)]
    exact ⟨.seen a, rfl, step_seen R a⟩
  · obtain ⟨a, rfl⟩ := l1 ln
    rw [no (by omega)]
    exact ⟨.back a, rfl, step_back R a⟩
  · rw [l0 ln, no (by omega)]
    exact ⟨.keys, rfl, step_keys R⟩
  · rw [l0 ln]
    exact ⟨.play row, rfl, step_play R row⟩
  · rw [l0 ln, no (by omega)]
    exact ⟨.counts, rfl, step_counts R⟩
  · obtain ⟨a, rfl⟩ := l1 ln
    rw [no (by omega)]
    exact ⟨.differ a, rfl, step_differ R a⟩
def CallM.flat (c : CallM) : List Nat := c.call :: (c.nums ++ c.row)
theorem nat_all {l : List Nat} (h : ∀ n ∈ l, n < 4294967296) : ((Ge13.ints l).all Ge13Neutral.nat) = true := by
  rw [List.all_eq_true]
  intro z hz
  obtain ⟨n, hn, rfl⟩ := List.mem_map.mp hz
  have := h n hn
  unfold Ge13Neutral.nat
  rw [Bool.and_eq_true, decide_eq_true_iff, decide_eq_true_iff]
  omega
theorem ints_nat (l : List Nat) : (Ge13.ints l).map Int.toNat = l := by
  unfold Ge13.ints
  rw [List.map_map]
  conv => rhs; rw [← List.map_id l]
  refine List.map_congr_left fun n _ => ?_
  exact Int.toNat_natCast n
theorem call_of {l : List Nat} {x : Ge13.Call} (h : Ge13Neutral.callIn l = some x) (hs : ∀ n ∈ l, n < 4294967296) : Ge13Neutral.callOf (Ge13.ints l) = some x := by
  have e1 := nat_all hs
  have e2 := ints_nat l
  unfold Ge13Neutral.callOf
  rw [if_neg (fun z => Bool.false_ne_true (z.symm.trans e1)), e2]
  exact h
theorem step_of {g : Ge13.St} {c : List Int} {x : Ge13.Call} (h : Ge13Neutral.callOf c = some x) : Ge13Neutral.step g c = Ge13.step g x := by
  unfold Ge13Neutral.step
  rw [h]
theorem step_neutral {g : Ge13.St} {c : CallM} {x : Ge13.Call} (h : Ge13Neutral.callIn c.flat = some x) (hs : ∀ n ∈ c.flat, n < 4294967296) : Ge13Neutral.step g (Ge13.ints c.flat) = Ge13.step g x := step_of (call_of h hs)
theorem told_run : ∀ (cs : List CallM) (raw : List (List (List Int))) (acc : List Int) (m : DeskM) (g : Ge13.St), RelD m g → (∀ c ∈ cs, c.Ok ∧ ∀ n ∈ c.flat, n < 4294967296) → raw.map (fun c => c.headD []) = cs.map (fun c => Ge13.ints c.flat) →
    (cs.foldl stepA (acc, m)).1 = acc ++ PyFlat.told (PyFlat.played (fun s c => Ge13Neutral.step s (c.headD [])) g raw)
  | [], [], acc, m, g, _, _, _ => by show acc = acc ++ []; rw [List.append_nil]
  | [], _ :: _, _, _, _, _, _, h => by cases h
  | _ :: _, [], _, _, _, _, _, h => by cases h
  | c :: cs, r :: raw, acc, m, g, R, hc, h => by
    have h1 : r.headD [] = Ge13.ints c.flat := (List.cons.inj h).1
    have h2 := (List.cons.inj h).2
    obtain ⟨ok, hs⟩ := hc c (List.mem_cons_self ..)
    obtain ⟨x, hx, e1, e2⟩ := step_all R ok
    have es : Ge13Neutral.step g (r.headD []) = Ge13.step g x := by rw [h1]; exact step_neutral hx hs
    rw [List.foldl_cons]
    have ih := told_run cs raw (stepA (acc, m) c).1 (stepA (acc, m) c).2 (Ge13.step g x).1 e2 (fun d hd => hc d (List.mem_cons_of_mem _ hd)) h2
    rw [show stepA (acc, m) c = ((stepA (acc, m) c).1, (stepA (acc, m) c).2) from rfl, ih]
    show acc ++ (((dAns (dDone m c.call c.nums c.row) m).1.length : Int) :: (dAns (dDone m c.call c.nums c.row) m).1) ++ _ = acc ++ PyFlat.told ((Ge13Neutral.step g (r.headD [])).2 :: PyFlat.played (fun s c => Ge13Neutral.step s (c.headD [])) (Ge13Neutral.step g (r.headD [])).1 raw)
    rw [es, ← e1]
    unfold PyFlat.told
    rw [List.flatMap_cons, List.append_assoc]
theorem start_rel : RelD desk0 Ge13Neutral.start := ⟨RelG.new cave0_ok (by decide) (by decide), fun n => .inl ⟨rfl, rfl⟩⟩
/-! ### the text of the calls -/
theorem ints_of : ∀ {l : List Int}, (∀ x ∈ l, 0 ≤ x) → Ge13.ints (l.map Int.toNat) = l
  | [], _ => rfl
  | x :: l, h => by
    show ((x.toNat : Nat) : Int) :: Ge13.ints (l.map Int.toNat) = x :: l
    rw [Int.toNat_of_nonneg (h x (List.mem_cons_self ..)), ints_of fun y hy => h y (List.mem_cons_of_mem _ hy)]
theorem shape_some {p : Int} {nk : Nat × Nat} (h : PyGe13.shape p = some nk) : p = 0 ∨ p = 1 ∨ p = 2 ∨ p = 3 ∨ p = 4 ∨ p = 5 ∨ p = 6 ∨ p = 7 ∨ p = 8 ∨ p = 9 ∨ p = 10 ∨ p = 11 ∨ p = 12 ∨ p = 13 := by
  unfold PyGe13.shape at h
  by_cases e0 : p = 0
  · exact .inl e0
  by_cases e1 : p = 1
  · omega
  by_cases e2 : p = 2
  · omega
  by_cases e3 : p = 3
  · omega
  by_cases e4 : p = 4
  · omega
  by_cases e5 : p = 5
  · omega
  by_cases e6 : p = 6
  · omega
  by_cases e7 : p = 7
  · omega
  by_cases e8 : p = 8
  · omega
  by_cases e9 : p = 9
  · omega
  by_cases e10 : p = 10
  · omega
  by_cases e11 : p = 11
  · omega
  by_cases e12 : p = 12
  · omega
  by_cases e13 : p = 13
  · omega
  rw [if_neg e0, if_neg e1, if_neg e2, if_neg e3, if_neg e4, if_neg e5, if_neg e6, if_neg e7, if_neg e8, if_neg e9, if_neg e10, if_neg e11, if_neg e12, if_neg e13] at h
  cases h
/-- what is told of one call -/
def Told (l : List Int) (c : List (List Int)) (t : List Int) : Prop := ∃ d : CallM, d.Ok ∧ l = Ge13.ints d.enc ++ t ∧ (PyGe13.whole c).headD [] = Ge13.ints d.flat ∧ (∀ n ∈ d.flat, (n : Int) ∈ l)
theorem told_row {p : Int} {r : List Int} {c : List (List Int)} {t : List Int} {q : Nat} (hp : p = (q : Nat)) (hq : q = 0 ∨ q = 11) (nn : ∀ x ∈ r, 0 ≤ x) (h : (match PyFlat.row r with
    | none => none
    | some (x, s) => some ([[p], x], s)) = some (c, t)) (hb : ∀ x, c = [[p], x] → x.length ≤ 400) (hw : ∀ x, PyGe13.whole [[p], x] = [[p] ++ x]) : Told (p :: r) c t := by
  cases r with
  | nil => cases h
  | cons z r =>
    unfold PyFlat.row at h
    dsimp only at h
    by_cases hz : 0 ≤ z ∧ z.toNat ≤ r.length
    · rw [if_pos hz] at h
      have h' : ([[p], r.take z.toNat], r.drop z.toNat) = (c, t) := Option.some.inj h
      obtain ⟨rfl, rfl⟩ := Prod.mk.inj h'
      have hl := hb _ rfl
      have nn' : ∀ x ∈ r.take z.toNat, 0 ≤ x := fun x hx => nn x (List.mem_cons_of_mem _ (List.mem_of_mem_take hx))
      have ez : (((r.take z.toNat).map Int.toNat).length : Int) = z := by
        rw [List.length_map, List.length_take, Nat.min_eq_left hz.2]
        exact Int.toNat_of_nonneg hz.1
      refine ⟨⟨q, [], (r.take z.toNat).map Int.toNat⟩, ⟨by show q ≤ 13; omega, by rcases hq with rfl | rfl <;> rfl, by rw [List.length_map]; exact hl, fun n => absurd hq n⟩, ?_, ?_, fun n hn => ?_⟩
      · unfold CallM.enc
        rw [if_pos (show q = 0 ∨ q = 11 from hq)]
        show p :: z :: r = ((q : Nat) : Int) :: (((r.take z.toNat).map Int.toNat).length : Int) :: (Ge13.ints ((r.take z.toNat).map Int.toNat) ++ r.drop z.toNat)
        rw [ez, ints_of nn', List.take_append_drop, hp]
      · rw [hw]
        show p :: r.take z.toNat = ((q : Nat) : Int) :: Ge13.ints ((r.take z.toNat).map Int.toNat)
        rw [ints_of nn', hp]
      · rcases List.mem_cons.mp hn with e | e
        · rw [e, ← hp]; exact List.mem_cons_self ..
        · obtain ⟨x, hx, rfl⟩ := List.mem_map.mp e
          rw [Int.toNat_of_nonneg (nn' x hx)]
          exact List.mem_cons_of_mem _ (List.mem_cons_of_mem _ (List.mem_of_mem_take hx))
    · rw [if_neg hz] at h; cases h
theorem told_0 {p : Int} {r : List Int} {q : Nat} (hp : p = (q : Nat)) (h13 : q ≤ 13) (hm : manyL.getD q 0 = 0) (hn : ¬ (q = 0 ∨ q = 11)) (hw : PyGe13.whole [[p]] = [[p]]) : Told (p :: r) [[p]] r := by
  refine ⟨⟨q, [], []⟩, ⟨h13, hm.symm, Nat.zero_le _, fun _ => rfl⟩, ?_, ?_, fun n hn => ?_⟩
  · unfold CallM.enc
    rw [if_neg (show ¬ (q = 0 ∨ q = 11) from hn), hp]; rfl
  · rw [hw, hp]; rfl
  · have : n = q := by simpa [CallM.flat] using hn
    rw [this, ← hp]; exact List.mem_cons_self ..
theorem told_1 {p x : Int} {r : List Int} {q : Nat} (hp : p = (q : Nat)) (hx : 0 ≤ x) (h13 : q ≤ 13) (hm : manyL.getD q 0 = 1) (hn : ¬ (q = 0 ∨ q = 11)) (hw : PyGe13.whole [[p, x]] = [[p] ++ [x]]) : Told (p :: x :: r) [[p, x]] r := by
  have ex : ((x.toNat : Nat) : Int) = x := Int.toNat_of_nonneg hx
  refine ⟨⟨q, [x.toNat], []⟩, ⟨h13, hm.symm, Nat.zero_le _, fun _ => rfl⟩, ?_, ?_, fun n hn => ?_⟩
  · unfold CallM.enc
    rw [if_neg (show ¬ (q = 0 ∨ q = 11) from hn), hp]
    show _ = ((q : Nat) : Int) :: ((x.toNat : Nat) : Int) :: r
    rw [ex]
  · rw [hw, hp]
    show _ = [((q : Nat) : Int), ((x.toNat : Nat) : Int)]
    rw [ex]; rfl
  · have : n = q ∨ n = x.toNat := by simpa [CallM.flat] using hn
    rcases this with e | e
    · rw [e, ← hp]; exact List.mem_cons_self ..
    · rw [e, ex]; simp
theorem call_one {p : Int} {r : List Int} {c : List (List Int)} {t : List Int} (nn : ∀ x ∈ r, 0 ≤ x) (h : PyFlat.call PyGe13.shape (p :: r) = some (c, t)) (hb : PyInside.call PyGe13.bound c = true) : Told (p :: r) c t := by
  have hs : ∃ nk, PyGe13.shape p = some nk := by
    unfold PyFlat.call at h
    dsimp only at h
    cases e : PyGe13.shape p with
    | none => rw [e] at h; cases h
    | some nk => exact ⟨nk, rfl⟩
  obtain ⟨nk, hs⟩ := hs
  have one : ∀ {q : Nat}, p = (q : Nat) → PyGe13.shape p = some (1, 0) → q ≤ 13 → manyL.getD q 0 = 1 → ¬ (q = 0 ∨ q = 11) → (∀ x, PyGe13.whole [[p, x]] = [[p] ++ [x]]) → Told (p :: r) c t := fun {q} hp hsh h13 hm hn hw => by
    unfold PyFlat.call at h
    dsimp only at h
    rw [hsh] at h
    cases r with
    | nil => cases h
    | cons x r =>
      have h' : ([[p, x]], r) = (c, t) := by
        have h2 : (if (x :: r).length < 1 then none else some ([[p, x]], r)) = some (c, t) := h
        rw [if_neg (by simp)] at h2
        exact Option.some.inj h2
      obtain ⟨rfl, rfl⟩ := Prod.mk.inj h'
      exact told_1 hp (nn x (List.mem_cons_self ..)) h13 hm hn (hw x)
  have zero : ∀ {q : Nat}, p = (q : Nat) → PyGe13.shape p = some (0, 0) → q ≤ 13 → manyL.getD q 0 = 0 → ¬ (q = 0 ∨ q = 11) → PyGe13.whole [[p]] = [[p]] → Told (p :: r) c t := fun {q} hp hsh h13 hm hn hw => by
    unfold PyFlat.call at h
    dsimp only at h
    rw [hsh] at h
    have h' : ([[p]], r) = (c, t) := by
      have h2 : (if r.length < 0 then none else some ([[p]], r)) = some (c, t) := h
      rw [if_neg (by omega)] at h2
      exact Option.some.inj h2
    obtain ⟨rfl, rfl⟩ := Prod.mk.inj h'
    exact told_0 hp h13 hm hn hw
  have rowed : ∀ {q : Nat}, p = (q : Nat) → PyGe13.shape p = some (0, 1) → (q = 0 ∨ q = 11) → (∀ x, PyGe13.whole [[p], x] = [[p] ++ x]) → (∀ x, c = [[p], x] → x.length ≤ 400) → Told (p :: r) c t := fun {q} hp hsh hq hw hl => by
    unfold PyFlat.call at h
    dsimp only at h
    rw [hsh] at h
    refine told_row hp hq nn ?_ hl hw
    have h2 : (if r.length < 0 then none else match (match PyFlat.row r with
      | none => none
      | some (x, s) => some ([x], s)) with
      | none => none
      | some (xs, t) => some (([p]) :: xs, t)) = some (c, t) := h
    rw [if_neg (by omega)] at h2
    cases e : PyFlat.row r with
    | none => rw [e] at h2; cases h2
    | some y => obtain ⟨x, s⟩ := y; rw [e] at h2; exact h2
  rcases shape_some hs with rfl | rfl | rfl | rfl | rfl | rfl | rfl | rfl | rfl | rfl | rfl | rfl | rfl | rfl
  · refine rowed (q := 0) rfl rfl (.inl rfl) (fun _ => rfl) fun x e => ?_
    subst e
    have h2 : (true && (decide (0 ≤ x.length) && decide (x.length ≤ 400) && x.all (PyInside.within 0 4294967295) && true)) = true := hb
    simp only [Bool.and_eq_true, decide_eq_true_eq] at h2
    exact h2.2.1.1.2
  · exact one (q := 1) rfl rfl (by decide) rfl (by decide) fun _ => rfl
  · exact one (q := 2) rfl rfl (by decide) rfl (by decide) fun _ => rfl
  · exact one (q := 3) rfl rfl (by decide) rfl (by decide) fun _ => rfl
  · exact one (q := 4) rfl rfl (by decide) rfl (by decide) fun _ => rfl
  · exact one (q := 5) rfl rfl (by decide) rfl (by decide) fun _ => rfl
  · exact zero (q := 6) rfl rfl (by decide) rfl (by decide) rfl
  · unfold PyFlat.call at h
    match r, nn, h with
    | [], _, h => cases h
    | [_], _, h => cases h
    | x :: y :: r, nn, h =>
      have h' : ([[7, x, y]], r) = (c, t) := by
        have h2 : (if (x :: y :: r).length < 2 then none else some ([[7, x, y]], r)) = some (c, t) := h
        rw [if_neg (by simp)] at h2
        exact Option.some.inj h2
      obtain ⟨rfl, rfl⟩ := Prod.mk.inj h'
      have hx := nn x (by simp)
      have hy := nn y (by simp)
      have ex : ((x.toNat : Nat) : Int) = x := Int.toNat_of_nonneg hx
      have ey : ((y.toNat : Nat) : Int) = y := Int.toNat_of_nonneg hy
      refine ⟨⟨7, [x.toNat, y.toNat], []⟩, ⟨by show 7 ≤ 13; decide, rfl, Nat.zero_le _, fun _ => rfl⟩, ?_, ?_, fun n hn => ?_⟩
      · show _ = (7 : Int) :: ((x.toNat : Nat) : Int) :: ((y.toNat : Nat) : Int) :: r
        rw [ex, ey]
      · show _ = [(7 : Int), ((x.toNat : Nat) : Int), ((y.toNat : Nat) : Int)]
        rw [ex, ey]; rfl
      · have : n = 7 ∨ n = x.toNat ∨ n = y.toNat := by simpa [CallM.flat] using hn
        rcases this with e | e | e
        · rw [e]; exact List.mem_cons_self ..
        · rw [e, ex]; simp
        · rw [e, ey]; simp
  · exact one (q := 8) rfl rfl (by decide) rfl (by decide) fun _ => rfl
  · exact one (q := 9) rfl rfl (by decide) rfl (by decide) fun _ => rfl
  · exact zero (q := 10) rfl rfl (by decide) rfl (by decide) rfl
  · refine rowed (q := 11) rfl rfl (.inr rfl) (fun _ => rfl) fun x e => ?_
    subst e
    have h2 : (true && (decide (0 ≤ x.length) && decide (x.length ≤ 120) && x.all (PyInside.within 0 4294967295) && true)) = true := hb
    simp only [Bool.and_eq_true, decide_eq_true_eq] at h2
    have := h2.2.1.1.2
    omega
  · exact zero (q := 12) rfl rfl (by decide) rfl (by decide) rfl
  · exact one (q := 13) rfl rfl (by decide) rfl (by decide) fun _ => rfl
end SC
/-! MG: the plain law. -/
namespace SC
open PySem
theorem calls_all : ∀ (f : Nat) (l : List Int) (raw : List (List (List Int))), PyFlat.calls PyGe13.shape f l = some raw → (∀ x ∈ l, 0 ≤ x) → raw.all (PyInside.call PyGe13.bound) = true →
    ∃ cs : List CallM, (∀ c ∈ cs, c.Ok ∧ ∀ n ∈ c.flat, (n : Int) ∈ l) ∧ l = Ge13.ints (cs.flatMap CallM.enc) ∧ (raw.map PyGe13.whole).map (fun c => c.headD []) = cs.map fun c => Ge13.ints c.flat := by
  intro f
  induction f with
  | zero =>
    intro l raw h nn hb
    cases l with
    | nil =>
      have e : some ([] : List (List (List Int))) = some raw := h
      cases e
      exact ⟨[], fun c hc => absurd hc (List.not_mem_nil), rfl, rfl⟩
    | cons p r => cases h
  | succ f ih =>
    intro l raw h nn hb
    cases l with
    | nil =>
      have e : some ([] : List (List (List Int))) = some raw := h
      cases e
      exact ⟨[], fun c hc => absurd hc (List.not_mem_nil), rfl, rfl⟩
    | cons p r =>
      unfold PyFlat.calls at h
      cases e1 : PyFlat.call PyGe13.shape (p :: r) with
      | none => rw [e1] at h; cases h
      | some ct =>
        obtain ⟨c, t⟩ := ct
        rw [e1] at h
        dsimp only at h
        cases e2 : PyFlat.calls PyGe13.shape f t with
        | none => rw [e2] at h; cases h
        | some cs' =>
          rw [e2] at h
          have e3 : c :: cs' = raw := Option.some.inj h
          subst e3
          rw [List.all_cons, Bool.and_eq_true] at hb
          obtain ⟨d, dok, dl, dh, dm⟩ := call_one (fun x hx => nn x (List.mem_cons_of_mem _ hx)) e1 hb.1
          have sub : ∀ x ∈ t, x ∈ p :: r := fun x hx => by rw [dl]; exact List.mem_append_right _ hx
          obtain ⟨cs, c1, c2, c3⟩ := ih t cs' e2 (fun x hx => nn x (sub x hx)) hb.2
          refine ⟨d :: cs, fun x hx => ?_, ?_, ?_⟩
          · rcases List.mem_cons.mp hx with e | e
            · rw [e]; exact ⟨dok, dm⟩
            · exact ⟨(c1 x e).1, fun n hn => sub _ ((c1 x e).2 n hn)⟩
          · rw [dl, List.flatMap_cons]
            conv => lhs; rw [c2]
            unfold Ge13.ints
            rw [List.map_append]
          · rw [List.map_cons, List.map_cons, List.map_cons, c3, dh]
theorem the_law (l : List Int) (h0 : ∀ x ∈ l, 0 ≤ x ∧ x ≤ 4294967295) (ha : PyGe13.answers_asked l = true) :
    ∃ cs : List CallM, l = Ge13.ints (cs.flatMap CallM.enc) ∧ (∀ c ∈ cs, c.Ok) ∧ (runA cs).1 = PyGe13.answers l ∧ (runA cs).1.length ≤ 10000000 := by
  have hs : PyFlat.short 10000000 (PyGe13.answers l) = true ∧ ∃ raw, PyFlat.calls PyGe13.shape l.length l = some raw ∧ raw.all (PyInside.call PyGe13.bound) = true := by
    unfold PyGe13.answers_asked at ha
    cases e : PyFlat.calls PyGe13.shape l.length l with
    | none => rw [e] at ha; cases ha
    | some raw =>
      rw [e] at ha
      dsimp only at ha
      rw [Bool.and_eq_true, Bool.and_eq_true, Bool.and_eq_true] at ha
      exact ⟨ha.2, raw, rfl, ha.1.1.2⟩
  obtain ⟨hlen, raw, hraw, hin⟩ := hs
  obtain ⟨cs, c1, c2, c3⟩ := calls_all l.length l raw hraw (fun x hx => (h0 x hx).1) hin
  have er : (runA cs).1 = PyGe13.answers l := by
    have eans : PyGe13.answers l = PyFlat.told (PyFlat.played (fun s c => Ge13Neutral.step s (c.headD [])) Ge13Neutral.start (raw.map PyGe13.whole)) := by
      unfold PyGe13.answers PyGe13.calls
      rw [hraw]
    rw [eans]
    refine told_run cs (raw.map PyGe13.whole) [] desk0 Ge13Neutral.start start_rel (fun c hc => ⟨(c1 c hc).1, fun n hn => ?_⟩) c3
    have := (h0 _ ((c1 c hc).2 n hn)).2
    omega
  refine ⟨cs, c2, fun c hc => (c1 c hc).1, er, ?_⟩
  rw [er]
  exact of_decide_eq_true hlen
end SC
/-! The end. -/
open PySem PySem.W PyProof.Rows
set_option maxHeartbeats 8000000 in
theorem PySem.Challenge.cw_stonecave_s01_answers_holds : PySem.Challenge.rw_stonecave_s01_answers.Holds := by
  w_on; k_headS; (case hw => exact ⟨[.list [.int 6]], by decide +kernel, by decide +kernel⟩)
  k_fillS
  refine L2.walk_specK (r := PySem.Challenge.rw_stonecave_s01_answers) (k := 14) (CX := L2.CX0) (ps := ["calls"]) (sp := SC.spAnswers) (by decide +kernel) rfl rfl ⟨rfl, by decide, by decide⟩ (fun w h Y => PySem.W.kIn_of Y) ?F ?S (fun _ _ _ _ z => z)
  case F =>
    intro w mg fa h Y KX G hmg
    refine' SC.all_mk KX G hmg ?n_NOTHING ?n_EARTH ?n_WALL ?n_STONE ?n_FALLING_STONE ?n_GEM ?n_FALLING_GEM ?n_PLAYER ?n_FIRST_MONSTER ?n_LAST_MONSTER ?n_EXIT ?n_LINE_END ?n_MOST_WIDE ?n_MOST_HIGH ?n_GOES_ON ?n_WON ?n_LOST ?n_FOR_GEM ?n_FOR_MONSTER ?n_FOR_EXIT ?n_NOT_AS_TOLD ?n_NONE_THERE ?n_TOO_MANY ?n_ALIKE ?n_FAULT ?n_LONGEST ?n_MOST_BYTE ?n_MOST_KEY ?n_MOST_PARTS ?n_MOST_TICKS ?n_FIRST_LENGTH ?n_MOST_LENGTH ?n_MOST_KEPT ?n_MOST_PRESSED ?n_SORTS ?n_BYTES ?l_BYTES ?n_LOOSE ?l_LOOSE ?n_FALLING ?l_FALLING ?n_LYING ?l_LYING ?n_WAYS ?l_WAYS ?n_DOWN ?l_DOWN ?n_MANY_NUMBERS ?l_MANY_NUMBERS ?n_WITH_ROW ?l_WITH_ROW ?l_w0 ?l_w1 ?l_w2 ?l_w3 ?z_len ?z_range ?z_any ?z_all ?z_list ?z_int ?z_min ?z_enumerate ?z_zip ?z_ValueError ?n_Cave ?pg_Cave ?hd_Cave ?po_Cave ?sa_Cave ?mk_Cave ?kc_Cave ?f_Cave_wide ?f_Cave_high ?f_Cave_cells ?f_Cave_standing ?f_Cave_points ?n_Tick ?pg_Tick ?hd_Tick ?po_Tick ?sa_Tick ?mk_Tick ?kc_Tick ?f_Tick_wide ?f_Tick_high ?f_Tick_cells ?f_Tick_had ?f_Tick_standing ?f_Tick_points ?n_Game ?pg_Game ?hd_Game ?po_Game ?sa_Game ?mk_Game ?kc_Game ?f_Game_caves ?f_Game_pressed ?f_Game_left ?f_Game_length ?f_Game_held ?n_Desk ?pg_Desk ?hd_Desk ?po_Desk ?sa_Desk ?mk_Desk ?kc_Desk ?f_Desk_game ?f_Desk_kept ?n_Refused ?x_Refused ?sa_Refused ?ga_Refused ?gg_Refused ?nb_Refused ?kc_Refused ?ex_Refused ?ty_Refused ?hd_Refused ?ic_Refused ?ss_Refused ?ve ?a_Cave___init__ ?i_Cave___init__ ?l_Cave___init__ ?c_Cave___init__ ?k_Cave___init__ ?a_Cave_gems ?i_Cave_gems ?l_Cave_gems ?c_Cave_gems ?k_Cave_gems ?a_Cave_written ?i_Cave_written ?l_Cave_written ?c_Cave_written ?k_Cave_written ?a_Cave_is_like ?i_Cave_is_like ?l_Cave_is_like ?c_Cave_is_like ?k_Cave_is_like ?a_rows_in ?l_rows_in ?c_rows_in ?k_rows_in ?a_fault_of ?l_fault_of ?c_fault_of ?k_fault_of ?a_cave_of ?l_cave_of ?c_cave_of ?k_cave_of ?a_first_cave ?l_first_cave ?c_first_cave ?k_first_cave ?a_fallen ?l_fallen ?c_fallen ?k_fallen ?a_lying ?l_lying ?c_lying ?k_lying ?a_is_monster ?l_is_monster ?c_is_monster ?k_is_monster ?a_Tick___init__ ?i_Tick___init__ ?l_Tick___init__ ?c_Tick___init__ ?k_Tick___init__ ?a_Tick_at ?i_Tick_at ?l_Tick_at ?c_Tick_at ?k_Tick_at ?a_Tick_put ?i_Tick_put ?l_Tick_put ?c_Tick_put ?k_Tick_put ?a_Tick_arrive ?i_Tick_arrive ?l_Tick_arrive ?c_Tick_arrive ?k_Tick_arrive ?a_Tick_go ?i_Tick_go ?l_Tick_go ?c_Tick_go ?k_Tick_go ?a_Tick_have_gems ?i_Tick_have_gems ?l_Tick_have_gems ?c_Tick_have_gems ?k_Tick_have_gems ?a_Tick_push ?i_Tick_push ?l_Tick_push ?c_Tick_push ?k_Tick_push ?a_Tick_play ?i_Tick_play ?l_Tick_play ?c_Tick_play ?k_Tick_play ?a_Tick_roll ?i_Tick_roll ?l_Tick_roll ?c_Tick_roll ?k_Tick_roll ?a_Tick_fall ?i_Tick_fall ?l_Tick_fall ?c_Tick_fall ?k_Tick_fall ?a_Tick_walk ?i_Tick_walk ?l_Tick_walk ?c_Tick_walk ?k_Tick_walk ?a_Tick_turn ?i_Tick_turn ?l_Tick_turn ?c_Tick_turn ?k_Tick_turn ?a_ticked ?l_ticked ?c_ticked ?k_ticked ?a_Game___init__ ?i_Game___init__ ?l_Game___init__ ?c_Game___init__ ?k_Game___init__ ?a_Game_now ?i_Game_now ?l_Game_now ?c_Game_now ?k_Game_now ?a_Game_many ?i_Game_many ?l_Game_many ?c_Game_many ?k_Game_many ?a_Game_goes_on ?i_Game_goes_on ?l_Game_goes_on ?c_Game_goes_on ?k_Game_goes_on ?a_Game_stood ?i_Game_stood ?l_Game_stood ?c_Game_stood ?k_Game_stood ?a_Game_stands ?i_Game_stands ?l_Game_stands ?c_Game_stands ?k_Game_stands ?a_Game_tick ?i_Game_tick ?l_Game_tick ?c_Game_tick ?k_Game_tick ?a_Game_many_due ?i_Game_many_due ?l_Game_many_due ?c_Game_many_due ?k_Game_many_due ?a_Game_frame ?i_Game_frame ?l_Game_frame ?c_Game_frame ?k_Game_frame ?a_Game_take_length ?i_Game_take_length ?l_Game_take_length ?c_Game_take_length ?k_Game_take_length ?a_Game_back ?i_Game_back ?l_Game_back ?c_Game_back ?k_Game_back ?a_Game_copied ?i_Game_copied ?l_Game_copied ?c_Game_copied ?k_Game_copied ?a_Game_parts_from ?i_Game_parts_from ?l_Game_parts_from ?c_Game_parts_from ?k_Game_parts_from ?a_Refused___init__ ?t_Refused___init__ ?l_Refused___init__ ?c_Refused___init__ ?k_Refused___init__ ?a_refuse ?l_refuse ?c_refuse ?k_refuse ?a_counted ?l_counted ?c_counted ?k_counted ?a_Desk___init__ ?i_Desk___init__ ?l_Desk___init__ ?c_Desk___init__ ?k_Desk___init__ ?a_Desk_cave ?i_Desk_cave ?l_Desk_cave ?c_Desk_cave ?k_Desk_cave ?a_Desk_hold ?i_Desk_hold ?l_Desk_hold ?c_Desk_hold ?k_Desk_hold ?a_Desk_need_ticks ?i_Desk_need_ticks ?l_Desk_need_ticks ?c_Desk_need_ticks ?k_Desk_need_ticks ?a_Desk_frame ?i_Desk_frame ?l_Desk_frame ?c_Desk_frame ?k_Desk_frame ?a_Desk_speed ?i_Desk_speed ?l_Desk_speed ?c_Desk_speed ?k_Desk_speed ?a_Desk_save ?i_Desk_save ?l_Desk_save ?c_Desk_save ?k_Desk_save ?a_Desk_load ?i_Desk_load ?l_Desk_load ?c_Desk_load ?k_Desk_load ?a_Desk_place ?i_Desk_place ?l_Desk_place ?c_Desk_place ?k_Desk_place ?a_Desk_seen ?i_Desk_seen ?l_Desk_seen ?c_Desk_seen ?k_Desk_seen ?a_Desk_back ?i_Desk_back ?l_Desk_back ?c_Desk_back ?k_Desk_back ?a_Desk_play ?i_Desk_play ?l_Desk_play ?c_Desk_play ?k_Desk_play ?a_Desk_differ ?i_Desk_differ ?l_Desk_differ ?c_Desk_differ ?k_Desk_differ ?a_Desk_of_one ?i_Desk_of_one ?l_Desk_of_one ?c_Desk_of_one ?k_Desk_of_one ?a_Desk_done ?i_Desk_done ?l_Desk_done ?c_Desk_done ?k_Desk_done ?a_Desk_answer ?i_Desk_answer ?l_Desk_answer ?c_Desk_answer ?k_Desk_answer ?a_answers ?l_answers ?c_answers ?k_answers
    (case n_NOTHING => k_is)
    (case n_EARTH => k_is)
    (case n_WALL => k_is)
    (case n_STONE => k_is)
    (case n_FALLING_STONE => k_is)
    (case n_GEM => k_is)
    (case n_FALLING_GEM => k_is)
    (case n_PLAYER => k_is)
    (case n_FIRST_MONSTER => k_is)
    (case n_LAST_MONSTER => k_is)
    (case n_EXIT => k_is)
    (case n_LINE_END => k_is)
    (case n_MOST_WIDE => k_is)
    (case n_MOST_HIGH => k_is)
    (case n_GOES_ON => k_is)
    (case n_WON => k_is)
    (case n_LOST => k_is)
    (case n_FOR_GEM => k_is)
    (case n_FOR_MONSTER => k_is)
    (case n_FOR_EXIT => k_is)
    (case n_NOT_AS_TOLD => k_is)
    (case n_NONE_THERE => k_is)
    (case n_TOO_MANY => k_is)
    (case n_ALIKE => k_is)
    (case n_FAULT => k_is)
    (case n_LONGEST => k_is)
    (case n_MOST_BYTE => k_is)
    (case n_MOST_KEY => k_is)
    (case n_MOST_PARTS => k_is)
    (case n_MOST_TICKS => k_is)
    (case n_FIRST_LENGTH => k_is)
    (case n_MOST_LENGTH => k_is)
    (case n_MOST_KEPT => k_is)
    (case n_MOST_PRESSED => k_is)
    (case n_SORTS => k_is)
    (case n_BYTES => k_is)
    (case l_BYTES => k_is)
    (case n_LOOSE => k_is)
    (case l_LOOSE => k_is)
    (case n_FALLING => k_is)
    (case l_FALLING => k_is)
    (case n_LYING => k_is)
    (case l_LYING => k_is)
    (case n_WAYS => k_is)
    (case l_WAYS => k_is)
    (case n_DOWN => k_is)
    (case l_DOWN => k_is)
    (case n_MANY_NUMBERS => k_is)
    (case l_MANY_NUMBERS => k_is)
    (case n_WITH_ROW => k_is)
    (case l_WITH_ROW => k_is)
    (case l_w0 => k_is)
    (case l_w1 => k_is)
    (case l_w2 => k_is)
    (case l_w3 => k_is)
    (case z_len => k_is)
    (case z_range => k_is)
    (case z_any => k_is)
    (case z_all => k_is)
    (case z_list => k_is)
    (case z_int => k_is)
    (case z_min => k_is)
    (case z_enumerate => k_is)
    (case z_zip => k_is)
    (case z_ValueError => k_is)
    (case n_Cave => k_is)
    (case pg_Cave => k_is)
    (case hd_Cave => k_is)
    (case po_Cave => k_is)
    (case sa_Cave => k_is)
    (case mk_Cave => k_is)
    (case kc_Cave => k_is)
    (case f_Cave_wide => k_is)
    (case f_Cave_high => k_is)
    (case f_Cave_cells => k_is)
    (case f_Cave_standing => k_is)
    (case f_Cave_points => k_is)
    (case n_Tick => k_is)
    (case pg_Tick => k_is)
    (case hd_Tick => k_is)
    (case po_Tick => k_is)
    (case sa_Tick => k_is)
    (case mk_Tick => k_is)
    (case kc_Tick => k_is)
    (case f_Tick_wide => k_is)
    (case f_Tick_high => k_is)
    (case f_Tick_cells => k_is)
    (case f_Tick_had => k_is)
    (case f_Tick_standing => k_is)
    (case f_Tick_points => k_is)
    (case n_Game => k_is)
    (case pg_Game => k_is)
    (case hd_Game => k_is)
    (case po_Game => k_is)
    (case sa_Game => k_is)
    (case mk_Game => k_is)
    (case kc_Game => k_is)
    (case f_Game_caves => k_is)
    (case f_Game_pressed => k_is)
    (case f_Game_left => k_is)
    (case f_Game_length => k_is)
    (case f_Game_held => k_is)
    (case n_Desk => k_is)
    (case pg_Desk => k_is)
    (case hd_Desk => k_is)
    (case po_Desk => k_is)
    (case sa_Desk => k_is)
    (case mk_Desk => k_is)
    (case kc_Desk => k_is)
    (case f_Desk_game => k_is)
    (case f_Desk_kept => k_is)
    (case n_Refused => k_is)
    (case x_Refused => k_is)
    (case sa_Refused => k_is)
    (case ga_Refused => k_is)
    (case gg_Refused => k_is)
    (case nb_Refused => k_is)
    (case kc_Refused => k_is)
    (case ex_Refused => k_is)
    (case ty_Refused => k_is)
    (case hd_Refused => k_is)
    (case ic_Refused => k_is)
    (case ss_Refused => first | rfl | k_is)
    (case ve => k_is)
    (case a_Cave___init__ => k_is)
    (case i_Cave___init__ => k_is)
    (case l_Cave___init__ => k_is)
    (case c_Cave___init__ => k_is)
    (case k_Cave___init__ => k_is)
    (case a_Cave_gems => k_is)
    (case i_Cave_gems => k_is)
    (case l_Cave_gems => k_is)
    (case c_Cave_gems => k_is)
    (case k_Cave_gems => k_is)
    (case a_Cave_written => k_is)
    (case i_Cave_written => k_is)
    (case l_Cave_written => k_is)
    (case c_Cave_written => k_is)
    (case k_Cave_written => k_is)
    (case a_Cave_is_like => k_is)
    (case i_Cave_is_like => k_is)
    (case l_Cave_is_like => k_is)
    (case c_Cave_is_like => k_is)
    (case k_Cave_is_like => k_is)
    (case a_rows_in => k_is)
    (case l_rows_in => k_is)
    (case c_rows_in => k_is)
    (case k_rows_in => k_is)
    (case a_fault_of => k_is)
    (case l_fault_of => k_is)
    (case c_fault_of => k_is)
    (case k_fault_of => k_is)
    (case a_cave_of => k_is)
    (case l_cave_of => k_is)
    (case c_cave_of => k_is)
    (case k_cave_of => k_is)
    (case a_first_cave => k_is)
    (case l_first_cave => k_is)
    (case c_first_cave => k_is)
    (case k_first_cave => k_is)
    (case a_fallen => k_is)
    (case l_fallen => k_is)
    (case c_fallen => k_is)
    (case k_fallen => k_is)
    (case a_lying => k_is)
    (case l_lying => k_is)
    (case c_lying => k_is)
    (case k_lying => k_is)
    (case a_is_monster => k_is)
    (case l_is_monster => k_is)
    (case c_is_monster => k_is)
    (case k_is_monster => k_is)
    (case a_Tick___init__ => k_is)
    (case i_Tick___init__ => k_is)
    (case l_Tick___init__ => k_is)
    (case c_Tick___init__ => k_is)
    (case k_Tick___init__ => k_is)
    (case a_Tick_at => k_is)
    (case i_Tick_at => k_is)
    (case l_Tick_at => k_is)
    (case c_Tick_at => k_is)
    (case k_Tick_at => k_is)
    (case a_Tick_put => k_is)
    (case i_Tick_put => k_is)
    (case l_Tick_put => k_is)
    (case c_Tick_put => k_is)
    (case k_Tick_put => k_is)
    (case a_Tick_arrive => k_is)
    (case i_Tick_arrive => k_is)
    (case l_Tick_arrive => k_is)
    (case c_Tick_arrive => k_is)
    (case k_Tick_arrive => k_is)
    (case a_Tick_go => k_is)
    (case i_Tick_go => k_is)
    (case l_Tick_go => k_is)
    (case c_Tick_go => k_is)
    (case k_Tick_go => k_is)
    (case a_Tick_have_gems => k_is)
    (case i_Tick_have_gems => k_is)
    (case l_Tick_have_gems => k_is)
    (case c_Tick_have_gems => k_is)
    (case k_Tick_have_gems => k_is)
    (case a_Tick_push => k_is)
    (case i_Tick_push => k_is)
    (case l_Tick_push => k_is)
    (case c_Tick_push => k_is)
    (case k_Tick_push => k_is)
    (case a_Tick_play => k_is)
    (case i_Tick_play => k_is)
    (case l_Tick_play => k_is)
    (case c_Tick_play => k_is)
    (case k_Tick_play => k_is)
    (case a_Tick_roll => k_is)
    (case i_Tick_roll => k_is)
    (case l_Tick_roll => k_is)
    (case c_Tick_roll => k_is)
    (case k_Tick_roll => k_is)
    (case a_Tick_fall => k_is)
    (case i_Tick_fall => k_is)
    (case l_Tick_fall => k_is)
    (case c_Tick_fall => k_is)
    (case k_Tick_fall => k_is)
    (case a_Tick_walk => k_is)
    (case i_Tick_walk => k_is)
    (case l_Tick_walk => k_is)
    (case c_Tick_walk => k_is)
    (case k_Tick_walk => k_is)
    (case a_Tick_turn => k_is)
    (case i_Tick_turn => k_is)
    (case l_Tick_turn => k_is)
    (case c_Tick_turn => k_is)
    (case k_Tick_turn => k_is)
    (case a_ticked => k_is)
    (case l_ticked => k_is)
    (case c_ticked => k_is)
    (case k_ticked => k_is)
    (case a_Game___init__ => k_is)
    (case i_Game___init__ => k_is)
    (case l_Game___init__ => k_is)
    (case c_Game___init__ => k_is)
    (case k_Game___init__ => k_is)
    (case a_Game_now => k_is)
    (case i_Game_now => k_is)
    (case l_Game_now => k_is)
    (case c_Game_now => k_is)
    (case k_Game_now => k_is)
    (case a_Game_many => k_is)
    (case i_Game_many => k_is)
    (case l_Game_many => k_is)
    (case c_Game_many => k_is)
    (case k_Game_many => k_is)
    (case a_Game_goes_on => k_is)
    (case i_Game_goes_on => k_is)
    (case l_Game_goes_on => k_is)
    (case c_Game_goes_on => k_is)
    (case k_Game_goes_on => k_is)
    (case a_Game_stood => k_is)
    (case i_Game_stood => k_is)
    (case l_Game_stood => k_is)
    (case c_Game_stood => k_is)
    (case k_Game_stood => k_is)
    (case a_Game_stands => k_is)
    (case i_Game_stands => k_is)
    (case l_Game_stands => k_is)
    (case c_Game_stands => k_is)
    (case k_Game_stands => k_is)
    (case a_Game_tick => k_is)
    (case i_Game_tick => k_is)
    (case l_Game_tick => k_is)
    (case c_Game_tick => k_is)
    (case k_Game_tick => k_is)
    (case a_Game_many_due => k_is)
    (case i_Game_many_due => k_is)
    (case l_Game_many_due => k_is)
    (case c_Game_many_due => k_is)
    (case k_Game_many_due => k_is)
    (case a_Game_frame => k_is)
    (case i_Game_frame => k_is)
    (case l_Game_frame => k_is)
    (case c_Game_frame => k_is)
    (case k_Game_frame => k_is)
    (case a_Game_take_length => k_is)
    (case i_Game_take_length => k_is)
    (case l_Game_take_length => k_is)
    (case c_Game_take_length => k_is)
    (case k_Game_take_length => k_is)
    (case a_Game_back => k_is)
    (case i_Game_back => k_is)
    (case l_Game_back => k_is)
    (case c_Game_back => k_is)
    (case k_Game_back => k_is)
    (case a_Game_copied => k_is)
    (case i_Game_copied => k_is)
    (case l_Game_copied => k_is)
    (case c_Game_copied => k_is)
    (case k_Game_copied => k_is)
    (case a_Game_parts_from => k_is)
    (case i_Game_parts_from => k_is)
    (case l_Game_parts_from => k_is)
    (case c_Game_parts_from => k_is)
    (case k_Game_parts_from => k_is)
    (case a_Refused___init__ => k_is)
    (case t_Refused___init__ => k_is)
    (case l_Refused___init__ => k_is)
    (case c_Refused___init__ => k_is)
    (case k_Refused___init__ => k_is)
    (case a_refuse => k_is)
    (case l_refuse => k_is)
    (case c_refuse => k_is)
    (case k_refuse => k_is)
    (case a_counted => k_is)
    (case l_counted => k_is)
    (case c_counted => k_is)
    (case k_counted => k_is)
    (case a_Desk___init__ => k_is)
    (case i_Desk___init__ => k_is)
    (case l_Desk___init__ => k_is)
    (case c_Desk___init__ => k_is)
    (case k_Desk___init__ => k_is)
    (case a_Desk_cave => k_is)
    (case i_Desk_cave => k_is)
    (case l_Desk_cave => k_is)
    (case c_Desk_cave => k_is)
    (case k_Desk_cave => k_is)
    (case a_Desk_hold => k_is)
    (case i_Desk_hold => k_is)
    (case l_Desk_hold => k_is)
    (case c_Desk_hold => k_is)
    (case k_Desk_hold => k_is)
    (case a_Desk_need_ticks => k_is)
    (case i_Desk_need_ticks => k_is)
    (case l_Desk_need_ticks => k_is)
    (case c_Desk_need_ticks => k_is)
    (case k_Desk_need_ticks => k_is)
    (case a_Desk_frame => k_is)
    (case i_Desk_frame => k_is)
    (case l_Desk_frame => k_is)
    (case c_Desk_frame => k_is)
    (case k_Desk_frame => k_is)
    (case a_Desk_speed => k_is)
    (case i_Desk_speed => k_is)
    (case l_Desk_speed => k_is)
    (case c_Desk_speed => k_is)
    (case k_Desk_speed => k_is)
    (case a_Desk_save => k_is)
    (case i_Desk_save => k_is)
    (case l_Desk_save => k_is)
    (case c_Desk_save => k_is)
    (case k_Desk_save => k_is)
    (case a_Desk_load => k_is)
    (case i_Desk_load => k_is)
    (case l_Desk_load => k_is)
    (case c_Desk_load => k_is)
    (case k_Desk_load => k_is)
    (case a_Desk_place => k_is)
    (case i_Desk_place => k_is)
    (case l_Desk_place => k_is)
    (case c_Desk_place => k_is)
    (case k_Desk_place => k_is)
    (case a_Desk_seen => k_is)
    (case i_Desk_seen => k_is)
    (case l_Desk_seen => k_is)
    (case c_Desk_seen => k_is)
    (case k_Desk_seen => k_is)
    (case a_Desk_back => k_is)
    (case i_Desk_back => k_is)
    (case l_Desk_back => k_is)
    (case c_Desk_back => k_is)
    (case k_Desk_back => k_is)
    (case a_Desk_play => k_is)
    (case i_Desk_play => k_is)
    (case l_Desk_play => k_is)
    (case c_Desk_play => k_is)
    (case k_Desk_play => k_is)
    (case a_Desk_differ => k_is)
    (case i_Desk_differ => k_is)
    (case l_Desk_differ => k_is)
    (case c_Desk_differ => k_is)
    (case k_Desk_differ => k_is)
    (case a_Desk_of_one => k_is)
    (case i_Desk_of_one => k_is)
    (case l_Desk_of_one => k_is)
    (case c_Desk_of_one => k_is)
    (case k_Desk_of_one => k_is)
    (case a_Desk_done => k_is)
    (case i_Desk_done => k_is)
    (case l_Desk_done => k_is)
    (case c_Desk_done => k_is)
    (case k_Desk_done => k_is)
    (case a_Desk_answer => k_is)
    (case i_Desk_answer => k_is)
    (case l_Desk_answer => k_is)
    (case c_Desk_answer => k_is)
    (case k_Desk_answer => k_is)
    (case a_answers => k_is)
    (case l_answers => k_is)
    (case c_answers => k_is)
    (case k_answers => k_is)
  case S =>
    intro K H xs a hO hwi hask hx
    cases hx with
    | cons h1 h2 =>
      cases h2
      cases h1 with
      | lst hs ha =>
        have e := L2.ints_dw a.1 _ ha
        subst e
        have q : ((Codec.inLen 0 16080 a.1 && a.1.all (Codec.inInt 0 4294967295)) && true) = true := hwi
        rw [Bool.and_eq_true, Bool.and_eq_true] at q
        obtain ⟨cs, e1, e2, e3, e4⟩ := SC.the_law a.1 (fun x hx => Codec.inInt_iff.mp (List.all_eq_true.mp q.1.2 x hx)) hask
        refine ⟨_, cs, rfl, ?_, e2, e4, fun H' p hp => .lst (L2.SqL.of hp) ?_⟩
        · rw [SC.vi_ints]
          rw [e1] at hs
          exact hs
        · rw [e3]
          exact L2.dw_ints _

