import PyProof.Rows.All
import Wide.All
import OpenK.AllK
import Wide.FinOn
import KE.KStateDown
import HandS.ForMost
import HandS.ForExc
import HandS.More
import HandS.Defaults
import HandS.MakeKw
import HandS.ExcIs
import HandS.ExcCtx
import HandS.HotCalls
import HandS.IsInst
import HandS.SortRule
import HandS.SortInts
import HandS.Deep
import HandS.HeadHook4
import HandS.Style
import PySem.Challenge.RW_leasewatch_k03_an_ear_hears_once
import HandS.Head0
import HandS.Head1
import HandS.Head2
import HandS.HeadEnd
import HandS.HeadHook1
import HandS.HeadHook2
import HandS.HeadHook3
set_option Elab.async false
set_option linter.all false
set_option maxRecDepth 100000
set_option maxHeartbeats 4000000
namespace LW
open PySem PySem.Spec PyProof.Rows L2
abbrev St := L2.St

/-! ### where a def stands, its record -/
abbrev Nm := Str × Option Str
def fd0 : FuncData := PySem.W.fnOf Str.empty Str.empty { posonlyargs := [], args := [], vararg := none, kwonlyargs := [], kw_defaults := [], kwarg := none, defaults := [] } [] { kind := .function, names := [], isGenerator := false, isCoroutine := false } .none .none .none .none none .none .none
def fdAt (K : PySem.W.Frag) (p : Nm) : FuncData := match K.lookup (He.fAd K p) with
  | some ⟨_, _, .func fd, _⟩ => fd
  | _ => fd0
theorem fdAt_of {K : PySem.W.Frag} {p : Nm} {x qual : Str} {params : Arguments} {body : List Stmt} {scope : Scope} {dvs : List V} {kws : List (Str × V)}
    (h : ∃ fd, FunD K x qual params body scope dvs kws (He.fAd K p) fd) : FunD K x qual params body scope dvs kws (He.fAd K p) (fdAt K p) := by
  obtain ⟨fd, F⟩ := h
  obtain ⟨oc, od, dV, kV, doc, pm, an, cdv, ct, osl, e, lk, hcd, hD, hK⟩ := id F.ex
  have q : fdAt K p = fd := by
    unfold fdAt
    rw [lk]
  rw [q]
  exact F

/-! ### calls where what is raised is wished for at the caller's slots -/
section
variable {X : Cx} {CX : CXT} {k n : Nat} {f C : Addr} {fd : FuncData} {ps ks : List Str} {sp : Sp} {E : St → XK} {x m : Str} {p pos apos : Pos} {e o : Expr} {es : List Expr} {kws : List Keyword} {ta : TE} {t tk : TA}
  {g : List Value → List Value → List Value} {gV : List V → List V → List V}
theorem run_g {pins : List (Addr × Obj)} {σ : St} {H : Hp} {s : Shared} {Q : VK} {us ws : List Value} {vs zs : List V} {E : XK} (F : FnOk X.prog X.w X.K X.mg X.base CX k f fd ps sp) (hr : Room k X.A)
    (hb : KBn X.K fd ps n ks g gV) (hx : PassesAt CX X σ E) (I : Inv X pins σ H s) (r : Vals vs us) (rz : Vals zs ws) (l1 : vs.length = n) (l2 : zs.length = ks.length) (h : sp (gV vs zs) H Q E) :
    wpAny (model X.prog X.w) X.A (call (.ref f) us (ks.zip ws)) (EP X pins σ Q) X.xe s := by
  have r2 := hb.rel r rz
  have b := hb.to s us ws I.kIn (r.length.symm.trans l1) (rz.length.symm.trans l2)
  refine wpAny_call (codeAny_mono (F.run X.A X.stack s H _ (g us ws) (gV vs zs) Q E hr I.env0 b r2 h) fun res s' hq => ?_)
  match res, hq with
  | .error e, hq => exact hx pins H s e s' I hq
  | .ok (.ret u), hq => exact I.after hq
/-- o.m(e, .., k = v, ..): n values with the object itself -/
def tMethG (C : Addr) (m : Str) (n j : Nat) (sp : Sp) (gV : List V → List V → List V) (E : St → XK) (ta : TE) (t tk : TA) : TE := fun σ H Q => ta σ H fun x H1 =>
  ∃ a dx fs, x = .ref a ∧ H1 a = some (.ins C dx fs) ∧ fs.lookup m = none ∧ t σ H1 fun vs H2 => tk σ H2 fun zs H3 => (x :: vs).length = n ∧ zs.length = j ∧ sp (gV (x :: vs) zs) H3 Q (E σ)
theorem pe_methG {pl : Sem Bool} (he : PE X o ta) (c : Cls X.K C) (hm : Meth X.K C m f) (F : FnOk X.prog X.w X.K X.mg X.base CX k f fd ps sp) (hr : Room k X.A) (hb : KBn X.K fd ps n ks g gV)
    (hx : ∀ σ, PassesAt CX X σ (E σ)) (ha : PA X (e :: es) t) (hkw : PK X kws tk)
    (hall : (backToKw pos (keywordEach kws X.env)).all (·.1.isSome) = true := by rfl) (hks : (backToKw pos (keywordEach kws X.env)).filterMap (·.1) = ks := by rfl)
    (hst : starEach (e :: es) X.env = (false, eval e X.env) :: starEach es X.env := by rfl)
    (hpl : ((backTo pos (starEach (e :: es) X.env)).any (·.1) || (backToKw pos (keywordEach kws X.env)).any (·.1.isNone)) = false := by rfl)
    (ht : eval (.Call (.Attribute o m apos) (e :: es) kws pos) X.env = (do
      let ov ← eval o X.env
      standAt apos.atName
      let (f, first) ← holding [ov] (getMethod ov m pl)
      callWith pos f first (backTo pos (starEach (e :: es) X.env)) (backToKw pos (keywordEach kws X.env))) := by rfl) :
    PE X (.Call (.Attribute o m apos) (e :: es) kws pos) (tMethG C m n ks.length sp gV E ta t tk) := by
  refine ⟨fun pins s σ H Q I h => ?_⟩
  refine PySem.W.methodCall_KW (pl := pl) (thn (he.run pins s σ H _ I h) fun u s1 hh => ?_) ht
  obtain ⟨y, H1, I1, rx, a, dx, fs, ex, ea, l, q⟩ := hh
  subst ex
  obtain rfl : u = Value.ref a := rx
  refine getmeth_ok I1 ea c hm l ?_
  refine PySem.W.callWith_KW (first := [.ref a]) (h₀ := X.base) I.ok.mod.kin hm.kp hall (thn (ha.run pos pins s1 σ H1 _ I1 q) fun us s2 h2 => ?_) hpl hst
  obtain ⟨vs, H2, I2, r, q2⟩ := h2
  refine thn (hkw.run pos pins s2 σ H2 _ I2 q2) fun ws s3 h3 => ?_
  obtain ⟨zs, H3, I3, rz, l1, l2, q3⟩ := h3
  refine ⟨I3.kIn, ?_⟩
  rw [hks]
  exact run_g (us := .ref a :: us) (vs := .ref a :: vs) F hr hb (hx σ) I3 (.cons rfl r) rz l1 l2 q3
/-- o.m(): no value but the object -/
def tMeth0 (C : Addr) (m : Str) (sp : Sp) (E : St → XK) (ta : TE) : TE := fun σ H Q => ta σ H fun x H1 =>
  ∃ a dx fs, x = .ref a ∧ H1 a = some (.ins C dx fs) ∧ fs.lookup m = none ∧ sp [x] H1 Q (E σ)
theorem pe_meth0S {pl : Sem Bool} (he : PE X o ta) (c : Cls X.K C) (hm : Meth X.K C m f) (F : FnOk X.prog X.w X.K X.mg X.base CX k f fd ps sp) (hr : Room k X.A) (hb : Binds X.K fd ps [])
    (hx : ∀ σ, PassesAt CX X σ (E σ))
    (ht : eval (.Call (.Attribute o m apos) [] [] pos) X.env = (do
      let ov ← eval o X.env
      standAt apos.atName
      let (f, first) ← holding [ov] (getMethod ov m pl)
      callWith pos f first (backTo pos (starEach [] X.env)) (backToKw pos (keywordEach [] X.env))) := by rfl) :
    PE X (.Call (.Attribute o m apos) [] [] pos) (tMeth0 C m sp E ta) := by
  refine ⟨fun pins s σ H Q I h => ?_⟩
  refine PySem.W.methodCall_KW (pl := pl) (thn (he.run pins s σ H _ I h) fun u s1 hh => ?_) ht
  obtain ⟨y, H1, I1, rx, a, dx, fs, ex, ea, l, q⟩ := hh
  subst ex
  obtain rfl : u = Value.ref a := rx
  refine getmeth_ok I1 ea c hm l ?_
  refine PySem.W.callWith_K0 (first := [.ref a]) I1.kIn hm.kp ?_
  exact run_fnS (us := [.ref a]) (vs := [.ref a]) F hr hb (hx σ) I1 (.cons rfl .nil) q
/-- o.m(e, ..): every parameter is given -/
def tMethS (C : Addr) (m : Str) (sp : Sp) (E : St → XK) (ta : TE) (t : TA) : TE := fun σ H Q => ta σ H fun x H1 =>
  ∃ a dx fs, x = .ref a ∧ H1 a = some (.ins C dx fs) ∧ fs.lookup m = none ∧ t σ H1 fun vs H2 => sp (x :: vs) H2 Q (E σ)
theorem pe_methS {pl : Sem Bool} (he : PE X o ta) (c : Cls X.K C) (hm : Meth X.K C m f) (F : FnOk X.prog X.w X.K X.mg X.base CX k f fd ps sp) (hr : Room k X.A) (hb : Binds X.K fd ps [])
    (hx : ∀ σ, PassesAt CX X σ (E σ)) (ha : PA X (e :: es) t)
    (hst : starEach (e :: es) X.env = (false, eval e X.env) :: starEach es X.env := by rfl) (hpl : (backTo pos (starEach es X.env)).any (·.1) = false := by rfl)
    (ht : eval (.Call (.Attribute o m apos) (e :: es) [] pos) X.env = (do
      let ov ← eval o X.env
      standAt apos.atName
      let (f, first) ← holding [ov] (getMethod ov m pl)
      callWith pos f first (backTo pos (starEach (e :: es) X.env)) (backToKw pos (keywordEach [] X.env))) := by rfl) :
    PE X (.Call (.Attribute o m apos) (e :: es) [] pos) (tMethS C m sp E ta t) := by
  refine ⟨fun pins s σ H Q I h => ?_⟩
  refine PySem.W.methodCall_KW (pl := pl) (thn (he.run pins s σ H _ I h) fun u s1 hh => ?_) ht
  obtain ⟨y, H1, I1, rx, a, dx, fs, ex, ea, l, q⟩ := hh
  subst ex
  obtain rfl : u = Value.ref a := rx
  refine getmeth_ok I1 ea c hm l ?_
  refine PySem.W.callWith_K (first := [.ref a]) (h₀ := X.base) I.ok.mod.kin hm.kp (thn (ha.run pos pins s1 σ H1 _ I1 q) fun us s2 h2 => ?_) hst hpl
  obtain ⟨vs, H2, I2, r, q2⟩ := h2
  exact ⟨I2.kIn, run_fnS (us := .ref a :: us) (vs := .ref a :: vs) F hr hb (hx σ) I2 (.cons rfl r) q2⟩
/-- f(): no parameter -/
theorem pe_callS0 (F : FnOk X.prog X.w X.K X.mg X.base CX k f fd ps sp) (hr : Room k X.A) (hg : Gl X x) (hm : X.mg x = some (.ref f)) (hk : PySem.W.keepIn X.K (.ref f) = true) (hb : Binds X.K fd ps [])
    (hx : ∀ σ, PassesAt CX X σ (E σ)) (hdb : (x == ("__debug__" : Str)) = false := by decide) : PE X (.Call (.Name x p) [] [] pos) (tCallS sp E tNil) := by
  refine ⟨fun pins s σ H Q I h => ?_⟩
  refine wpAny_Call_Name_kw (ld_glob I hg hm ?_ hdb)
  exact PySem.W.callWith_K0 I.kIn hk (run_fnS (us := []) F hr hb (hx σ) I .nil h)

/-! ### constructors, what is raised wished for at the caller's slots -/
def LMake (C : Addr) (as : Addr → List V) (sp : Sp) (H : Hp) (Q : VK) (E : XK) : Prop := ∀ x dx, H x = none → H dx = none → dx ≠ x → sp (as x) (upd (upd H dx (.own x)) x (.ins C dx [])) (fun v H2 => v = .non ∧ Q (.ref x) H2) E
theorem run_makeG {pins : List (Addr × Obj)} {σ : St} {H : Hp} {s : Shared} {Q : VK} {us ws : List Value} {vs zs : List V} {E : XK} (M : Mk X.K C f) (F : FnOk X.prog X.w X.K X.mg X.base CX k f fd ps sp) (hr : Room (k + 1) X.A) (hb : KBn X.K fd ps (n + 1) ks g gV)
    (hx : PassesAt CX X σ E) (I : Inv X pins σ H s) (r : Vals vs us) (rz : Vals zs ws) (l1 : vs.length = n) (l2 : zs.length = ks.length)
    (h : LMake C (fun x => gV (.ref x :: vs) zs) sp H Q E) :
    wpAny (model X.prog X.w) X.A (call (.ref C) us (ks.zip ws)) (EP X pins σ Q) X.xe s := by
  have hq := h (s.heap.objs.size + 1) s.heap.objs.size (I.hok.fresh (Nat.le_succ _)) (I.hok.fresh (Nat.le_refl _)) (Nat.ne_of_lt (Nat.lt_succ_self _))
  have I2 := Inv.made (C := C) I
  have r1 : Vals (V.ref (s.heap.objs.size + 1) :: vs) (Value.ref (s.heap.objs.size + 1) :: us) := .cons rfl r
  have r2 := hb.rel r1 rz
  have e1 : (Value.ref (s.heap.objs.size + 1) :: us).length = n + 1 := r1.length.symm.trans (congrArg Nat.succ l1)
  have e2 : ws.length = ks.length := rz.length.symm.trans l2
  refine wpAny_call (make_map (f := f) I.kIn M.makes M.init (beq_iff_eq.mp M.fn) (codeAny_mono (F.run _ X.stack _ _ ⟨Value.ref (s.heap.objs.size + 1) :: us, ks.zip ws⟩ (g (Value.ref (s.heap.objs.size + 1) :: us) ws) _ _ E (hr.make C us (ks.zip ws))
    (I2.env0.make C us (ks.zip ws)) (hb.to _ (Value.ref (s.heap.objs.size + 1) :: us) ws I2.kIn e1 e2) r2 hq) fun r s' hq' => ?_))
  cases r with
  | error e => exact hx pins _ _ e s' I2 hq'
  | ok fl =>
    cases fl with
    | ret u =>
      obtain ⟨v, H', I3, rv, ev, q3⟩ := I2.after hq'
      subst ev
      exact ⟨rv, ⟨V.ref (s.heap.objs.size + 1), H', I3, rfl, q3⟩⟩
    | next => exact False.elim hq'
    | brk => exact False.elim hq'
    | cont => exact False.elim hq'
theorem run_makeS {pins : List (Addr × Obj)} {σ : St} {H : Hp} {s : Shared} {Q : VK} {us : List Value} {vs : List V} {E : XK} (M : Mk X.K C f) (F : FnOk X.prog X.w X.K X.mg X.base CX k f fd ps sp) (hr : Room (k + 1) X.A) (hb : Binds X.K fd ps [])
    (hx : PassesAt CX X σ E) (I : Inv X pins σ H s) (r : Vals vs us) (h : LMake C (fun x => .ref x :: vs) sp H Q E) :
    wpAny (model X.prog X.w) X.A (call (.ref C) us) (EP X pins σ Q) X.xe s := by
  have hq := h (s.heap.objs.size + 1) s.heap.objs.size (I.hok.fresh (Nat.le_succ _)) (I.hok.fresh (Nat.le_refl _)) (Nat.ne_of_lt (Nat.lt_succ_self _))
  have I2 := Inv.made (C := C) I
  have r2 : Vals (V.ref (s.heap.objs.size + 1) :: vs) (Value.ref (s.heap.objs.size + 1) :: us) := .cons rfl r
  have hl : (Value.ref (s.heap.objs.size + 1) :: us ++ []).length = ps.length := by
    have e := r2.length
    rw [F.len _ _ _ _ hq] at e
    rw [List.append_nil]
    exact e.symm
  have b := hb _ (Value.ref (s.heap.objs.size + 1) :: us) I2.kIn hl
  rw [List.append_nil] at b
  refine wpAny_call (make_map (f := f) I.kIn M.makes M.init (beq_iff_eq.mp M.fn) (codeAny_mono (F.run _ X.stack _ _ ⟨Value.ref (s.heap.objs.size + 1) :: us, []⟩ (Value.ref (s.heap.objs.size + 1) :: us) _ _ E (hr.make C us [])
    (I2.env0.make C us []) b r2 hq) fun r s' hq' => ?_))
  cases r with
  | error e => exact hx pins _ _ e s' I2 hq'
  | ok fl =>
    cases fl with
    | ret u =>
      obtain ⟨v, H', I3, rv, ev, q3⟩ := I2.after hq'
      subst ev
      exact ⟨rv, ⟨V.ref (s.heap.objs.size + 1), H', I3, rfl, q3⟩⟩
    | next => exact False.elim hq'
    | brk => exact False.elim hq'
    | cont => exact False.elim hq'
/-- C(e, ..): every parameter is given -/
def tMakeS (C : Addr) (sp : Sp) (E : St → XK) (t : TA) : TE := fun σ H Q => t σ H fun vs H1 => LMake C (fun x => .ref x :: vs) sp H1 Q (E σ)
theorem pe_makeS (M : Mk X.K C f) (F : FnOk X.prog X.w X.K X.mg X.base CX k f fd ps sp) (hr : Room (k + 1) X.A) (hg : Gl X x) (hm : X.mg x = some (.ref C)) (hb : Binds X.K fd ps [])
    (hx : ∀ σ, PassesAt CX X σ (E σ)) (ha : PA X (e :: es) t) (hdb : (x == ("__debug__" : Str)) = false := by decide) (he : starEach (e :: es) X.env = (false, eval e X.env) :: starEach es X.env := by rfl) (hpl : (backTo pos (starEach es X.env)).any (·.1) = false := by rfl) :
    PE X (.Call (.Name x p) (e :: es) [] pos) (tMakeS C sp E t) := by
  refine ⟨fun pins s σ H Q I h => ?_⟩
  refine wpAny_Call_Name_kw (ld_glob I hg hm ?_ hdb)
  refine PySem.W.callWith_K (h₀ := X.base) I.ok.mod.kin M.kp (thn (ha.run pos pins s σ H _ I h) fun us s1 ⟨vs, H1, I1, r, q⟩ => ⟨I1.kIn, ?_⟩) he hpl
  exact run_makeS M F hr hb (hx σ) I1 r q
theorem pe_makeS0 (M : Mk X.K C f) (F : FnOk X.prog X.w X.K X.mg X.base CX k f fd ps sp) (hr : Room (k + 1) X.A) (hg : Gl X x) (hm : X.mg x = some (.ref C)) (hb : Binds X.K fd ps [])
    (hx : ∀ σ, PassesAt CX X σ (E σ)) (hdb : (x == ("__debug__" : Str)) = false := by decide) : PE X (.Call (.Name x p) [] [] pos) (tMakeS C sp E tNil) := by
  refine ⟨fun pins s σ H Q I h => ?_⟩
  refine wpAny_Call_Name_kw (ld_glob I hg hm ?_ hdb)
  exact PySem.W.callWith_K0 I.kIn M.kp (run_makeS (us := []) M F hr hb (hx σ) I .nil h)
/-- C(e, .., k = v, ..) -/
def tMakeG (C : Addr) (n m : Nat) (sp : Sp) (gV : List V → List V → List V) (E : St → XK) (t tk : TA) : TE := fun σ H Q => t σ H fun vs H1 => tk σ H1 fun zs H2 => vs.length = n ∧ zs.length = m ∧ LMake C (fun x => gV (.ref x :: vs) zs) sp H2 Q (E σ)
theorem pe_makeG (M : Mk X.K C f) (F : FnOk X.prog X.w X.K X.mg X.base CX k f fd ps sp) (hr : Room (k + 1) X.A) (hg : Gl X x) (hm : X.mg x = some (.ref C)) (hb : KBn X.K fd ps (n + 1) ks g gV)
    (hx : ∀ σ, PassesAt CX X σ (E σ)) (ha : PA X (e :: es) t) (hkw : PK X kws tk) (hall : (backToKw pos (keywordEach kws X.env)).all (·.1.isSome) = true := by rfl) (hks : (backToKw pos (keywordEach kws X.env)).filterMap (·.1) = ks := by rfl)
    (hdb : (x == ("__debug__" : Str)) = false := by decide) (he : starEach (e :: es) X.env = (false, eval e X.env) :: starEach es X.env := by rfl)
    (hpl : ((backTo pos (starEach (e :: es) X.env)).any (·.1) || (backToKw pos (keywordEach kws X.env)).any (·.1.isNone)) = false := by rfl) :
    PE X (.Call (.Name x p) (e :: es) kws pos) (tMakeG C n ks.length sp gV E t tk) := by
  refine ⟨fun pins s σ H Q I h => ?_⟩
  refine wpAny_Call_Name_kw (ld_glob I hg hm ?_ hdb)
  refine PySem.W.callWith_KW (h₀ := X.base) I.ok.mod.kin M.kp hall (thn (ha.run pos pins s σ H _ I h) fun us s1 ⟨vs, H1, I1, r, q⟩ => ?_) hpl he
  refine thn (hkw.run pos pins s1 σ H1 _ I1 q) fun ws s2 ⟨zs, H2, I2, rz, l1, l2, q2⟩ => ⟨I2.kIn, ?_⟩
  rw [hks]
  exact run_makeG M F hr hb (hx σ) I2 r rz l1 l2 q2
end
end LW

set_option maxHeartbeats 4000000
namespace LW
open PySem PySem.Spec PyProof.Rows L2 L2H HotX
/-! ### a def that is called within an except suite, the caught exception among its arguments -/
/-- sp: the exception's address, class, own dict, then as a promise -/
abbrev SpE := Addr → Value → Option Addr → Sp
structure FnE (P : Program) (w : World) (K : PySem.W.Frag) (mg : Str → Option Value) (base : Heap) (k : Nat) (f : Addr) (fd : FuncData) (ps : List Str) (sp : SpE) : Prop where
  len : ∀ a c d vs H Q E, sp a c d vs H Q E → vs.length = ps.length
  run : ∀ (A : Around) (outer : List Env) (s : Shared) (H : Hp) (args : Args) (us : List Value) (vs : List V) (Q : VK) (E : XK) (q : Addr × Obj) (c : Value) (d : Option Addr), RoomH k A → Hot1 A q → PinOk outer H s q →
    Zc c d q.2 → Env0 P w K mg base A outer s H → BindsTo s fd args (ps.zip us) → Vals vs us → sp q.1 c d vs H Q E → codeAny (model P w) A (.call (.ref f) args) (CR CX0 outer P w H s Q E) s
theorem fnE_of {P : Program} {w : World} {K : PySem.W.Frag} {mg : Str → Option Value} {base : Heap} {k : Nat} {f : Addr} {fd : FuncData} {x qual : Str} {params : Arguments} {body : List Stmt} {scope : Scope} {dvs : List V} {kws : List (Str × V)}
    {N ps : List Str} {sp : SpE} (F : FunD K x qual params body scope dvs kws f fd) (S : FnScope N ps scope) (len : ∀ a c d vs H Q E, sp a c d vs H Q E → vs.length = ps.length)
    (hbody : ∀ (cdv : Value) (A : Around) (outer : List Env) (s : Shared) (H : Hp) (vs : List V) (Q : VK) (E : XK) (q : Addr × Obj) (c : Value) (d : Option Addr), Hot1 A q → Zc c d q.2 →
      RoomH k (A.deeper (envOfC qual scope s.heap.objs.size f cdv)) → sp q.1 c d vs H Q E →
      ∃ t, PSs (cxH CX0 P w K mg base N qual scope f cdv A outer s H E q) body t ∧ t { nx := fun _ H' => Q .non H', rt := Q } (L2.start N vs) H) : FnE P w K mg base (k + 1) f fd ps sp := by
  obtain ⟨oc, od, dV, kV, doc, pm, an, cdv, ct, osl, rfl, lk, hcd, _, _⟩ := F.ex
  constructor
  · exact len
  intro A outer s H args us vs Q E q c d hr hot hpin hz e0 hb r hsp
  have hl := len _ _ _ _ _ _ _ hsp
  have KX : K.In s.heap := e0.mod.kin.keeps fun b o e => (e0.bs b o e).1
  have lim : s.heap.NoLimit := e0.mod.nolimit.keeps fun b o e => (e0.bs b o e).1
  have hkd : ∀ y ∈ ps.zip us, scope.names.lookup y.1 = some .local ∨ (scope.names.lookup y.1 = some .cell ∧ ((cellsFrom (s.heap.objs.size + 1) scope.names []).lookup y.1).isSome = true) := by
    rintro ⟨n, v⟩ hy
    rcases S.par n (List.of_mem_zip hy).1 with z | z
    · exact .inl z
    · exact .inr ⟨z, PySem.W.cellsFrom_some _ _ _ (.inl z)⟩
  refine codeAny_call_function hr.depth (KX _ _ lk) rfl S.co S.gen rfl (PySem.W.codeRec_of KX hcd) (hb _ _ _ _ ?_)
  refine wpAny_newFunctionEnv_cells S.kind hkd fun env he s1 xx => ?_
  subst he
  refine ⟨lim.keeps xx.toInCall.keep, codeAny_func ?_⟩
  obtain ⟨t, ht, hq⟩ := hbody cdv A outer s H vs Q E q c d hot hz (hr.deeper _) hsp
  have I := inv_startH (CX := CX0) (E := E) S hpin e0 hl r xx
  refine wpAny_mono (ht.run [] s1 (L2.start N vs) H _ I hq) (fun fl s' hs => ?_) fun e s' hs => hs
  match fl, hs with
  | .ret u, hs =>
    obtain ⟨v, σ', H', J, rv, z⟩ := hs
    exact ⟨v, H', J.os, J.bare, J.base, J.hok, rv, z⟩
  | .next, hs =>
    obtain ⟨σ', H', J, z⟩ := hs
    exact ⟨V.non, H', J.os, J.bare, J.base, J.hok, (rfl : RelV .non Value.none), z⟩
  | .brk, hs => exact (let ⟨_, _, _, z⟩ := hs; z.elim)
  | .cont, hs => exact (let ⟨_, _, _, z⟩ := hs; z.elim)

/-! ### exceptions of one's own: what isinstance tells of them -/
def exC1 (K : PySem.W.Frag) (D : Addr) : Bool :=
  PySem.W.findIn K (.ref D) "__getattribute__" == some (some (.builtin "BaseException.__getattribute__")) && PySem.W.findIn K (.ref D) "__getattr__" == some none && PySem.W.subIn K (.ref D) (.type "BaseException") == some true && PySem.W.hasDictIn K D &&
  PySem.W.findIn K (.ref D) "__class__" == some (some (.builtin "object.__class__")) && PySem.W.specialIn K (.builtin "object.__class__") "__get__" == some (some (.builtin "getset_descriptor.__get__")) && PySem.W.takesIn K (.builtin "object.__class__") == some true &&
  PySem.W.mroIn K D (.type "object") == some true
def exkB (l : List Str) (K : PySem.W.Frag) : Bool := l.all fun x => exC1 K (He.ga K x) && PySem.W.kitOne K (.ref (He.ga K x)) (.type "ValueError") == some true && l.all fun y => PySem.W.kitOne K (.ref (He.ga K x)) (.ref (He.ga K y)) == some (decide (x = y))
structure ExcK (l : List Str) (K : PySem.W.Frag) : Prop where
  exC : ∀ x ∈ l, ExcC K (He.ga K x)
  kitV : ∀ x ∈ l, PySem.W.kitOne K (.ref (He.ga K x)) (.type "ValueError") = some true
  kit : ∀ x ∈ l, ∀ y ∈ l, PySem.W.kitOne K (.ref (He.ga K x)) (.ref (He.ga K y)) = some (decide (x = y))
theorem exk_of {l : List Str} {K : PySem.W.Frag} (h : exkB l K = true) : ExcK l K := by
  unfold exkB at h
  rw [List.all_eq_true] at h
  refine ⟨fun x m => ?_, fun x m => ?_, fun x m y n => ?_⟩
  all_goals
    have a := h x m
    rw [Bool.and_eq_true, Bool.and_eq_true] at a
    obtain ⟨⟨a, b⟩, c⟩ := a
  · unfold exC1 at a
    simp only [Bool.and_eq_true, beq_iff_eq] at a
    obtain ⟨⟨⟨⟨⟨⟨⟨a1, a2⟩, a3⟩, a4⟩, a5⟩, a6⟩, a7⟩, a8⟩ := a
    exact ⟨a1, a2, a3, a4, a5, a6, a7, a8⟩
  · exact beq_iff_eq.mp b
  · exact beq_iff_eq.mp (List.all_eq_true.mp c y n)
theorem isD {K : PySem.W.Frag} {D : Addr} {x : Str} (h : PySem.W.kitOne K (.ref D) (.ref D) = some (decide (x = x))) : PySem.W.kitOne K (.ref D) (.ref D) = some true := by rw [h, decide_eq_true rfl]
theorem isC {K : PySem.W.Frag} {D C : Addr} {x y : Str} (h : PySem.W.kitOne K (.ref D) (.ref C) = some (decide (x = y))) (n : x ≠ y) : PySem.W.kitOne K (.ref D) (.ref C) = some false := by rw [h, decide_eq_false n]
theorem l_isEt {K : PySem.W.Frag} {D C a : Addr} {b : Bool} {H : Hp} {Q : VK} (h : PySem.W.kitOne K (.ref D) (.ref C) = some b) (q : Q (.bl b) H) : rIsE K D a [.ref a, .ref C] H Q := ⟨_, .ref C, b, rfl, fun _ r => r, h, q⟩
theorem l_isEV {K : PySem.W.Frag} {D a : Addr} {n : String} {b : Bool} {H : Hp} {Q : VK} (h : PySem.W.kitOne K (.ref D) (.type n) = some b) (q : Q (.bl b) H) : rIsE K D a [.ref a, .ty n] H Q := ⟨_, .type n, b, rfl, fun _ r => r, h, q⟩
theorem roomS {X : Cx} {k : Nat} {a : Addr} {pn : List (Addr × Obj)} (r : Room k X.A) : RoomH k (X.suite a pn).A := ⟨r.dp, r.un⟩
theorem hu64H {k : Nat} {A : Around} (r : RoomH k A) : A.units + 64 < cLine := by have := r.un; omega
theorem hu1H {k : Nat} {A : Around} (r : RoomH k A) : A.units + 1 < cLine := by have := r.un; omega
theorem hot_suite {X : Cx} {a : Addr} {oe : Obj} {cls : Value} {d : Option Addr} {pn : List (Addr × Obj)} (hz : L2N.Zn cls d oe) (hf : ∃ vs, oe.data = .fields vs) : Hot1 (X.suite a ((a, oe) :: pn)).A (a, oe) :=
  ⟨rfl, let ⟨vs, e⟩ := hf; ⟨vs, e, hz.2.2 vs e⟩⟩
section
variable {X : Cx} {k : Nat} {f : Addr} {fd : FuncData} {ps : List Str} {sp : SpE} {x : Str} {p pos : Pos} {e : Expr} {es : List Expr} {t : TA}
/-- f(err, ..) in the suite: no exception leaves f -/
def tCallE (sp : SpE) (a : Addr) (c : Value) (d : Option Addr) (t : TA) : TE := fun σ H Q => t σ H fun vs H1 => sp a c d vs H1 Q E0
theorem pe_callE {q : Addr × Obj} {c : Value} {d : Option Addr} (F : FnE X.prog X.w X.K X.mg X.base k f fd ps sp) (hr : RoomH k X.A) (hot : Hot1 X.A q) (hq : q ∈ X.pn) (hz : Zc c d q.2) (hg : Gl X x) (hm : X.mg x = some (.ref f))
    (hk : PySem.W.keepIn X.K (.ref f) = true) (hb : Binds X.K fd ps []) (ha : PA X (e :: es) t) (hdb : (x == ("__debug__" : Str)) = false := by decide) (he : starEach (e :: es) X.env = (false, eval e X.env) :: starEach es X.env := by rfl)
    (hpl : (backTo pos (starEach es X.env)).any (·.1) = false := by rfl) : PE X (.Call (.Name x p) (e :: es) [] pos) (tCallE sp q.1 c d t) := by
  constructor
  intro pins s σ H Q I h
  refine wpAny_Call_Name_kw (ld_glob I hg hm ?_ hdb)
  refine PySem.W.callWith_K (h₀ := X.base) I.ok.mod.kin hk (thn (ha.run pos pins s σ H _ I h) fun us s1 hh => ?_) he hpl
  obtain ⟨vs, H1, I1, r, hs⟩ := hh
  refine ⟨I1.kIn, ?_⟩
  have hl : us.length = ps.length := by rw [← r.length]; exact F.len _ _ _ _ _ _ _ hs
  have b := hb s1 us I1.kIn (by rw [List.append_nil]; exact hl)
  rw [List.append_nil] at b
  have P1 := I1.pin q (List.mem_append_left _ hq)
  have hpin : PinOk X.stack H1 s1 q := ⟨P1.1, P1.2.1, fun hm => (List.mem_cons.mp (I1.stkSub q.1 hm)).elim P1.2.2.1 P1.2.2.2.1, P1.2.2.2.2⟩
  refine wpAny_call (codeAny_mono (F.run X.A X.stack s1 H1 ⟨us, []⟩ us vs Q E0 q c d hr hot hpin hz I1.env0 b r hs) fun res s' hq => ?_)
  match res, hq with
  | .error e, hq => exact hq.elim
  | .ok (.ret u), hq => exact I1.after hq

/-- in the suite of a try -/
theorem pe_callES {a : Addr} {oe : Obj} {cls : Value} {d : Option Addr} {pn : List (Addr × Obj)} (F : FnE X.prog X.w X.K X.mg X.base k f fd ps sp) (hr : Room k X.A) (hz : L2N.Zn cls d oe) (hf : ∃ vs, oe.data = .fields vs) (hg : Gl X x) (hm : X.mg x = some (.ref f))
    (hk : PySem.W.keepIn X.K (.ref f) = true) (hb : Binds X.K fd ps []) (ha : PA (X.suite a ((a, oe) :: pn)) (e :: es) t) (hdb : (x == ("__debug__" : Str)) = false := by decide) (he : starEach (e :: es) (X.suite a ((a, oe) :: pn)).env = (false, eval e (X.suite a ((a, oe) :: pn)).env) :: starEach es (X.suite a ((a, oe) :: pn)).env := by rfl)
    (hpl : (backTo pos (starEach es (X.suite a ((a, oe) :: pn)).env)).any (·.1) = false := by rfl) : PE (X.suite a ((a, oe) :: pn)) (.Call (.Name x p) (e :: es) [] pos) (tCallE sp a cls d t) :=
  pe_callE (X := X.suite a ((a, oe) :: pn)) (q := (a, oe)) (c := cls) (d := d) F (roomS hr) (hot_suite hz hf) List.mem_cons_self hz.zc hg hm hk hb ha hdb he hpl
/-- isinstance(err, C), err the exception that a context bears -/
theorem call_isP {q : Addr × Obj} {D : Addr} (hq : q ∈ X.pn) (C : ExcC X.K D) (hz : Zc (.ref D) none q.2) (hf : ∃ vs, q.2.data = .fields vs) : CallR X (.builtin "isinstance") (rIsE X.K D q.1) := by
  intro pins s σ H xs us Q I r h
  obtain ⟨c, cv, b, rfl, hcv, e, z⟩ := h
  match us, r with
  | [u1, u2], .cons rx (.cons rt .nil) =>
    cases rx
    have ec := hcv _ rt
    subst ec
    have hget := (I.pin q (List.mem_append_left _ hq)).1
    obtain ⟨a, oe⟩ := q
    obtain ⟨vs, hv⟩ := hf
    have J : PySem.W.InstAt s.heap a oe D none := by
      obtain ⟨oc, od, oda, osl⟩ := oe
      obtain ⟨h1, h2⟩ := hz
      dsimp only at h1 h2 hv
      subst h1 h2 hv
      exact ⟨hget, rfl, rfl, trivial⟩
    exact PySem.W.kia_one (PySem.W.handS_kitx_exc C.hg C.hk C.hs C.hd C.ha C.hn C.ht C.hm) I.kIn J e (fun y => nomatch y) fun tk => ⟨.bl b, H, I.kept (t' := tk) fun _ _ y => y, rfl, z⟩
end

/-! ### a for over a list that is left before its end, where an exception is handled -/
structure TurnN (P : Program) (w : World) (K : PySem.W.Frag) (tg : Expr) (J : It) (fp : List Addr) (it : Addr) (tn : Nat → Heap → Prop) : Prop where
  mem : it ∈ fp
  obj : ∀ i h, tn i h → ∀ b ∈ fp, ∃ o, h.get? b = some o ∧ ∀ v, o.data ≠ .cell v
  keep : ∀ i h h', tn i h → (∀ b ∈ fp, ∀ o, h.get? b = some o → h'.get? b = some o) → tn i h'
  item : ∀ (X : Cx), X.prog = P → X.w = w → X.K = K → ∀ (i : Nat) (pins : List (Addr × Obj)) (s : Shared) (σ : St) (H : Hp) (E : Value → Shared → Prop), Inv X pins σ H s → (∀ b ∈ fp, FpOk X pins H b) → tn i s.heap → J.go i H →
    wpAny (model P w) X.A (pyNext (.ref it)) (fun r s1 => ∃ u, r = some u ∧
      wpAny (model P w) X.A (letOwnedTupleGo tg (.ref it) u) (fun _ s2 => ∃ x H', Inv X pins σ H' s2 ∧ RelV x u ∧ J.yld i H x H' ∧ tn (i + 1) s2.heap ∧ ∀ b ∈ fp, H' b = none) E s1) E s
theorem turnN_list {P : Program} {w : World} {K : PySem.W.Frag} {tg : Expr} (a it : Addr) : TurnN P w K tg (Itl K a) [it] it (fun i h => h.IsListIter it a i) where
  mem := List.mem_singleton.mpr rfl
  obj := (turn_list (P := P) (w := w) (K := K) (tg := tg) a it).obj
  keep := (turn_list (P := P) (w := w) (K := K) (tg := tg) a it).keep
  item := by
    rintro X rfl rfl rfl i pins s σ H E I hf st ⟨xs, x, hq, hx⟩
    obtain ⟨its, rv, p, hz⟩ := I.list hq
    obtain ⟨u, hu, ru⟩ := rv.get hx
    obtain ⟨f0, f1, f2, f3, f4, f5⟩ := hf it (List.mem_singleton.mpr rfl)
    refine wpAny_pyNext_list_item st p.isList (x := u) (by simpa using hu) fun h' st' sb => ?_
    have I1 : Inv X pins σ H { s with heap := h' } := I.turned (t' := s.toks) (fun b o hb e => (sb.2 b hb).trans e) f0 f1 f3 f4 f5
    obtain ⟨o, e, c, d⟩ := id st'
    refine ⟨u, rfl, go_of (s := { s with heap := h' }) e c d (by decide) ?_⟩
    exact ⟨x, H, I1, ru, ⟨rfl, fun ys hy => by rw [I.list_inj hy hq]; exact hx⟩, st', fun b hb => (hf b hb).1⟩
def PIEN (X : Cx) (pins : List (Addr × Obj)) (σ : St) (tg : Expr) (R : It → Hp → Prop) (itv : Value) (s2 : Shared) : Prop :=
  ∃ (it : Addr) (fp : List Addr) (tn : Nat → Heap → Prop) (J : It) (H' : Hp), itv = .ref it ∧ Inv X pins σ H' s2 ∧ TurnN X.prog X.w X.K tg J fp it tn ∧ tn 0 s2.heap ∧ (∀ b ∈ fp, FpOk X pins H' b) ∧ R J H'
structure PIN (X : Cx) (tg iter : Expr) (wi : TI) : Prop where
  run : ∀ (pins : List (Addr × Obj)) (s : Shared) (σ : St) (H : Hp) (R : It → Hp → Prop), Inv X pins σ H s → wi σ H R →
    wpAny (model X.prog X.w) X.A (eval iter X.env) (fun v s1 => wpAny (model X.prog X.w) X.A (pyIter v) (PIEN X pins σ tg R) X.xe s1) X.xe s
section
variable {X : Cx} {tg : Expr}
theorem pi_listN {l : Expr} {tl : TE} (hl : PE X l tl) : PIN X tg l (iList X.K tl) := by
  constructor
  intro pins s σ H R I h
  refine thn (hl.run pins s σ H _ I h) fun v s1 hh => ?_
  obtain ⟨x, H1, I1, r1, a, e, ⟨xs, hq⟩, q⟩ := hh
  subst e
  cases r1
  obtain ⟨its, rv, p, hz⟩ := I1.list hq
  refine wpAny_pyIter_list p.isList ?_
  refine ⟨s1.heap.objs.size, [s1.heap.objs.size], _, _, H1, rfl, I1.kept (t' := s1.toks) fun b o e => Heap.get?_push_of_some _ e, turnN_list a _, ⟨_, Heap.get?_push_size _ rfl, rfl, rfl⟩, fun b hb => ?_, q⟩
  obtain rfl : b = s1.heap.objs.size := by simpa using hb
  exact I1.fpOk (Nat.le_refl _) (I1.hok.fresh (Nat.le_refl _))
theorem pi_listNS {l : Expr} {tl : TE} {a : Addr} {pn : List (Addr × Obj)} (hl : PE (X.suite a pn) l tl) : PIN (X.suite a pn) tg l (iList X.K tl) := pi_listN (X := X.suite a pn) hl
/-- the loop never comes to its end -/
def tForN (wi : TI) (g : TG) (tb : TS) : TS := fun D σ H => wi σ H fun J H1 => ∃ W : Nat → Nat → St → Hp → Prop, (∃ m, W 0 m σ H1) ∧ ∀ i m σ H, W i m σ H →
  J.go i H ∧ ∃ N : St → Hp → Prop, (∀ σ' H', N σ' H' → ∃ m', m' < m ∧ W (i + 1) m' σ' H') ∧ ∀ x H', J.yld i H x H' → g x σ H' fun σ2 H2 => tb { D with nx := N, ct := N, bk := D.nx } σ2 H2
theorem ps_forN {iter : Expr} {body : List Stmt} {wi : TI} {g : TG} {tb : TS} {pos : Pos} (hp : PassesOwn (model X.prog X.w) X.A X.env X.xe) (hi : PIN X tg iter wi) (hg : PG X tg g) (hb : PSs X body tb)
    (hs : ∀ x, foldedSetIterable iter X.env x = pure x := by intro _; rfl) : PS X (.For tg iter body [] pos) (tForN wi g tb) := by
  constructor
  intro pins s σ H D I h
  refine wpAny_For (thn (hi.run pins s σ H _ I h) fun v s1 h1 => thn h1 fun itv s2 h2 => ?_) hs
  obtain ⟨it, fp, tn, J, H2, e, I2, T, st2, f2, W, ⟨m0, w0⟩, turn⟩ := h2
  subst e
  have stat : ∀ {H' : Hp}, (∀ b ∈ fp, H' b = none) → ∀ b ∈ fp, FpOk X pins H' b := fun hn b hb => ⟨hn b hb, (f2 b hb).2⟩
  refine codeAny_forLoop_any (fun n s' => ∃ i σ' H', Inv X pins σ' H' s' ∧ tn i s'.heap ∧ (∀ b ∈ fp, H' b = none) ∧ W i n σ' H') ?_ m0 ⟨0, σ, H2, I2, st2, fun b hb => (f2 b hb).1, w0⟩
  rintro n s3 ⟨i, σ3, H3, I3, st3, fr3, w3⟩
  obtain ⟨go, N, hN, step⟩ := turn i n σ3 H3 w3
  refine wpAny_passesOwn hp (thn (T.item X rfl rfl rfl i pins s3 σ3 H3 X.xe I3 (stat fr3) st3 go) fun r s4 h4 => ?_)
  obtain ⟨u, hr, h4⟩ := h4
  subst hr
  refine wpAny_passesOwn hp (thn h4 fun _ s5 h5 => ?_)
  obtain ⟨x, H5, I5, r5, y5, st5, fr5⟩ := h5
  have I5' := I5.pinned (stat fr5) (T.obj _ _ st5)
  refine wpAny_passesOwn hp (thn (hg.run _ s5 σ3 H5 x u _ I5' r5 (step x H5 y5)) fun _ s6 h6 => ?_)
  obtain ⟨σ6, H6, I6, q6⟩ := h6
  refine wpAny_passesOwn hp (thn (hb.run _ s6 σ6 H6 _ I6 q6) fun f s7 q7 => ?_)
  have again : ∀ {σ7 : St} {H7 : Hp}, Inv X (pins ++ pinsAt fp s5.heap) σ7 H7 s7 → N σ7 H7 → ∃ m, m < n ∧ ∃ i σ' H', Inv X pins σ' H' s7 ∧ tn i s7.heap ∧ (∀ b ∈ fp, H' b = none) ∧ W i m σ' H' := by
    intro σ7 H7 I7 n7
    obtain ⟨m', hm, w7⟩ := hN σ7 H7 n7
    refine ⟨m', hm, i + 1, σ7, H7, I7.unpinned, T.keep _ _ _ st5 fun b hb o e => ?_, fun b hb => ?_, w7⟩
    · exact (I7.pin (b, o) (List.mem_append_right _ (List.mem_append_right _ (mem_pinsAt hb e)))).1
    · obtain ⟨o, e, d⟩ := T.obj _ _ st5 b hb
      exact (I7.pin (b, o) (List.mem_append_right _ (List.mem_append_right _ (mem_pinsAt hb e)))).2.1
  match f, q7 with
  | .next, q7 => obtain ⟨σ7, H7, I7, n7⟩ := q7; exact again I7 n7
  | .cont, q7 => obtain ⟨σ7, H7, I7, n7⟩ := q7; exact again I7 n7
  | .brk, q7 => obtain ⟨σ7, H7, I7, q7⟩ := q7; exact ⟨σ7, H7, I7.unpinned, q7⟩
  | .ret v, q7 => obtain ⟨x7, σ7, H7, I7, r7, q7⟩ := q7; exact ⟨x7, σ7, H7, I7.unpinned, r7, q7⟩
/-- over a list that stays; P: what holds ahead of turn i; at turn n the loop is left at the latest -/
theorem forN_list {K : PySem.W.Frag} {a : Addr} {xs : List V} {g : TG} {tb : TS} {D : Ends} {σ : St} {H : Hp} (Pv : Nat → St → Hp → Prop) (h0 : Pv 0 σ H) (hl : ∀ i σ H, Pv i σ H → SqL K H a xs) (hn : ∀ i σ H, Pv i σ H → i < xs.length)
    (hs : ∀ i x σ H, xs[i]? = some x → Pv i σ H → g x σ H fun σ2 H2 => tb { D with nx := Pv (i + 1), ct := Pv (i + 1), bk := D.nx } σ2 H2) :
    ∃ W : Nat → Nat → St → Hp → Prop, (∃ m, W 0 m σ H) ∧ ∀ i m σ H, W i m σ H →
      (Itl K a).go i H ∧ ∃ N : St → Hp → Prop, (∀ σ' H', N σ' H' → ∃ m', m' < m ∧ W (i + 1) m' σ' H') ∧ ∀ x H', (Itl K a).yld i H x H' → g x σ H' fun σ2 H2 => tb { D with nx := N, ct := N, bk := D.nx } σ2 H2 := by
  refine ⟨fun i m σ H => m = xs.length - i ∧ Pv i σ H, ⟨xs.length, by simp, h0⟩, ?_⟩
  rintro i m σ H ⟨rfl, p⟩
  have q := hl i σ H p
  have hlt := hn i σ H p
  refine ⟨⟨xs, xs[i], q, by simp [hlt]⟩, Pv (i + 1), fun σ' H' p' => ⟨xs.length - (i + 1), by omega, rfl, p'⟩, fun x H' y => ?_⟩
  obtain ⟨e, y⟩ := y
  subst e
  exact hs i x σ _ (y xs q) p
end
end LW

set_option maxHeartbeats 4000000
namespace LW
open PySem PySem.Spec PyProof.Rows L2

/-! ### the heap: what is kept but at F (tuples always are) -/
structure Ext (F : List Addr) (H H' : Hp) : Prop where
  keep : ∀ a o, H a = some o → a ∉ F → H' a = some o
  tups : ∀ a xs, H a = some (.tup xs) → H' a = some (.tup xs)
theorem Ext.refl (F : List Addr) (H : Hp) : Ext F H H := ⟨fun _ _ h _ => h, fun _ _ h => h⟩
theorem Ext.trans {F : List Addr} {H H1 H2 : Hp} (a : Ext F H H1) (b : Ext F H1 H2) : Ext F H H2 :=
  ⟨fun c o h n => b.keep c o (a.keep c o h n) n, fun c xs h => b.tups c xs (a.tups c xs h)⟩
theorem Ext.mono {F G : List Addr} {H H' : Hp} (e : Ext F H H') (h : ∀ a ∈ F, a ∈ G ∨ H a = none) : Ext G H H' :=
  ⟨fun a o q n => e.keep a o q fun z => (h a z).elim n fun y => (by rw [y] at q; cases q), e.tups⟩
theorem Ext.sub {F G : List Addr} {H H' : Hp} (e : Ext F H H') (h : ∀ a ∈ F, a ∈ G) : Ext G H H' := e.mono fun a z => .inl (h a z)
/-- one after another, the second's footprint within the first's and what was new -/
theorem Ext.then {F G : List Addr} {H H1 H2 : Hp} (a : Ext F H H1) (b : Ext G H1 H2) (h : ∀ c ∈ G, c ∈ F ∨ H c = none) : Ext F H H2 :=
  ⟨fun c o q n => b.keep c o (a.keep c o q n) fun z => (h c z).elim n fun y => (by rw [y] at q; cases q), fun c xs q => b.tups c xs (a.tups c xs q)⟩
theorem Ext.new {F : List Addr} {H : Hp} {p : Addr} {o : HO} (h : H p = none) : Ext F H (upd H p o) :=
  ⟨fun a u e _ => (by rw [upd_ne (ne_of_none e h)]; exact e), fun a u e => (by rw [upd_ne (ne_of_none e h)]; exact e)⟩
theorem Ext.write {F : List Addr} {H : Hp} {p : Addr} {o u : HO} (h : H p = some u) (m : ∀ xs, u ≠ .tup xs) (hp : p ∈ F) : Ext F H (upd H p o) :=
  ⟨fun a v e n => (by rw [upd_ne (fun z => n (by rw [z]; exact hp))]; exact e), fun a xs e => (by rw [upd_ne (ne_of e h fun z => m xs z.symm)]; exact e)⟩
theorem Ext.free {F : List Addr} {H H' : Hp} {p : Addr} (e : Ext F H H') (h : H' p = none) (n : p ∉ F) : H p = none := by
  cases q : H p with
  | none => rfl
  | some o =>
    rw [e.keep p o q n] at h
    cases h
theorem Ext.same {H H' : Hp} (e : Ext [] H H') : Same H H' := fun a o h => e.keep a o h (by simp)
theorem Same.ext {F : List Addr} {H H' : Hp} (e : Same H H') : Ext F H H' := ⟨fun a o h _ => e a o h, fun a xs h => e a _ h⟩
theorem Ext.seqL {F : List Addr} {K : PySem.W.Frag} {H H' : Hp} {a : Addr} {xs : List V} (e : Ext F H H') (n : a ∉ F) (h : SqL K H a xs) : SqL K H' a xs := by
  rcases h with (h | ⟨o, h⟩) | h
  · exact .inl (.inl (e.keep _ _ h n))
  · exact .inl (.inr ⟨o, e.keep _ _ h n⟩)
  · exact .inr h
theorem Ext.wr {F : List Addr} {H H1 : Hp} {p : Addr} {o u : HO} (e : Ext F H H1) (h : H1 p = some u) (m : ∀ xs, u ≠ .tup xs) (hp : p ∈ F) : Ext F H (upd H1 p o) := e.trans (Ext.write h m hp)
/-- an object that was new is written -/
theorem Ext.wrN {F : List Addr} {H H1 : Hp} {p : Addr} {o u : HO} (e : Ext F H H1) (h : H1 p = some u) (m : ∀ xs, u ≠ .tup xs) (n : H p = none) : Ext F H (upd H1 p o) :=
  ⟨fun a v q z => (by rw [upd_ne (ne_of_none q n)]; exact e.keep a v q z), fun a xs q => (by rw [upd_ne (ne_of_none q n)]; exact e.tups a xs q)⟩
theorem Ext.add {F : List Addr} {H H1 H2 : Hp} (e : Ext F H H1) (a : Ext [] H1 H2) : Ext F H H2 := e.then a (fun _ h => by cases h)
/-- what is owned grows by new addresses alone -/
def Grow (H : Hp) (F F' : List Addr) : Prop := ∀ a ∈ F', a ∈ F ∨ H a = none
theorem Grow.refl (H : Hp) (F : List Addr) : Grow H F F := fun _ h => .inl h
theorem Grow.trans {H H1 : Hp} {F F1 F2 : List Addr} (a : Grow H F F1) (e : Ext F H H1) (b : Grow H1 F1 F2) : Grow H F F2 := fun c h => by
  rcases b c h with z | z
  · exact a c z
  · by_cases q : c ∈ F
    · exact .inl q
    · exact .inr (e.free z q)
def Live (H : Hp) (F : List Addr) : Prop := ∀ a ∈ F, H a ≠ none
def Apart (F G : List Addr) : Prop := ∀ a ∈ F, a ∉ G
theorem Apart.symm {F G : List Addr} (h : Apart F G) : Apart G F := fun a m n => h a n m
theorem Apart.grow {H : Hp} {F F' G : List Addr} (h : Apart F G) (g : Grow H F F') (l : Live H G) : Apart F' G := fun a m n => (g a m).elim (fun z => h a z n) fun z => l a n z
theorem Live.ext {F G : List Addr} {H H' : Hp} (l : Live H G) (e : Ext F H H') (h : Apart G F) : Live H' G := fun a m z => by
  cases q : H a with
  | none => exact l a m q
  | some o =>
    rw [e.keep a o q (h a m)] at z
    cases z

/-- a body under way: H0 its base, F what it may change of it -/
structure Run (F : List Addr) (H0 H : Hp) : Prop where
  ext : Ext F H0 H
  live : Live H F
theorem Run.start {F : List Addr} {H : Hp} (l : Live H F) : Run F H H := ⟨Ext.refl F H, l⟩
theorem Run.wr {F : List Addr} {H0 H : Hp} {a : Addr} {o u : HO} (r : Run F H0 H) (h : H a = some u) (m : ∀ xs, u ≠ .tup xs) (w : a ∈ F ∨ H0 a = none) : Run F H0 (upd H a o) := by
  refine ⟨w.elim (fun z => r.ext.wr h m z) fun z => r.ext.wrN h m z, fun b hb z => ?_⟩
  by_cases e : b = a
  · rw [e, upd_same] at z; cases z
  · rw [upd_ne e] at z; exact r.live b hb z
theorem Run.new {F : List Addr} {H0 H : Hp} {p : Addr} {o : HO} (r : Run F H0 H) (h : H p = none) : Run F H0 (upd H p o) ∧ H0 p = none ∧ p ∉ F := by
  have n : p ∉ F := fun z => r.live p z h
  refine ⟨⟨r.ext.add (Ext.new h), fun b hb z => ?_⟩, r.ext.free h n, n⟩
  have e : b ≠ p := fun y => n (y ▸ hb)
  rw [upd_ne e] at z
  exact r.live b hb z
/-- behind a call with the footprint G -/
theorem Run.call {F G : List Addr} {H0 H H' : Hp} (r : Run F H0 H) (e : Ext G H H') (g : ∀ a ∈ G, a ∈ F ∨ H0 a = none) (l : ∀ a ∈ F, a ∈ G → H' a ≠ none) : Run F H0 H' :=
  ⟨r.ext.then e g, fun a m z => by
    by_cases q : a ∈ G
    · exact l a m q z
    · cases y : H a with
      | none => exact r.live a m y
      | some o => rw [e.keep a o y q] at z; cases z⟩
theorem Run.same {F : List Addr} {H0 H H' : Hp} (r : Run F H0 H) (e : Ext [] H H') : Run F H0 H' := r.call (G := []) e (fun _ h => by cases h) fun _ _ h => by cases h
theorem Live.cons {H : Hp} {a : Addr} {o : HO} {F : List Addr} (h : H a = some o) (l : Live H F) : Live H (a :: F) := fun b m z => by
  rcases List.mem_cons.mp m with e | e
  · rw [e, h] at z; cases z
  · exact l b e z
theorem Live.nil {H : Hp} : Live H [] := fun _ m => by cases m

/-! ### forms of one's own: fields -/
/-- e.f, e an instance of the class at C -/
def tFldC (C : Addr) (f : Str) (ta : TE) : TE := fun σ H Q => ta σ H fun x H1 => ∃ a dx fs v, x = .ref a ∧ H1 a = some (.ins C dx fs) ∧ fs.lookup f = some v ∧ Q v H1
def sFldC (C : Addr) (f : Str) (ta tv : TE) : TS := fun D σ H => tv σ H fun y H1 => ta σ H1 fun x H2 => ∃ a dx fs, x = .ref a ∧ H2 a = some (.ins C dx fs) ∧ fs.length < 1000 ∧ D.nx σ (upd H2 a (.ins C dx (putF f y fs)))
section
variable {X : Cx} {o e value : Expr} {f : Str} {C : Addr} {pos pos' : Pos} {ta tv : TE}
theorem pe_fldC (c : Cls X.K C) (n : NoAttr X.K C f) (he : PE X e ta) (hb : attributeBase e f X.env (eval e X.env) = eval e X.env := by rfl) : PE X (.Attribute e f pos) (tFldC C f ta) := by
  constructor
  intro pins s σ H Q I h
  refine attr_of hb (thn (he.run pins s σ H _ I h) fun u s1 hh => ?_)
  obtain ⟨x, H1, I1, rx, a, dx, fs, v, ex, ea, l, q⟩ := hh
  subst ex
  obtain rfl : u = Value.ref a := rx
  exact getattr_ok I1 ea c n l fun u' s2 I2 ru => ⟨v, H1, I2, ru, q⟩
theorem ps_fldC (c : Cls X.K C) (n : NoAttr X.K C f) (ha : PE X o ta) (hv : PE X value tv) (hs : swapsWith value (some (.Attribute o f pos')) pos.line X.env = pure false := by rfl) :
    PS X (.Assign [.Attribute o f pos'] value pos) (sFldC C f ta tv) := by
  constructor
  intro pins s σ H D I h
  refine plainObj_wpAny_Assign_Attribute (thn (hv.run pins s σ H _ I h) fun u s1 hh => ?_) hs
  obtain ⟨y, H1, I1, ry, q⟩ := hh
  refine thn (ha.run pins s1 σ H1 _ I1 q) fun ov s2 h2 => ?_
  obtain ⟨x, H2, I2, rx, a, dx, fs, ex, ea, l, q2⟩ := h2
  subst ex
  obtain rfl : ov = Value.ref a := rx
  exact setattr_ok I2 ea c n l ry fun s3 I3 => ⟨σ, _, I3, q2⟩
end

/-! ### operators by names -/
def rIadd : R2 := rI0 fun i j => .int (i + j)
def rIsub : R2 := rI0 fun i j => .int (i - j)
def rImul : R2 := rI CMul fun i j => .int (i * j)
def rImod : R2 := rI (fun _ j => 0 < j) fun i j => .int (i % j)
def rIdiv : R2 := rI CDiv fun i j => .int (i / j)
def rIpow : R2 := rI CPow fun i j => .int (i ^ j.toNat)
def rIlt : R2 := rI0 fun i j => .bl (decide (i < j))
def rIle : R2 := rI0 fun i j => .bl (decide (i ≤ j))
def rIgt : R2 := rI0 fun i j => .bl (decide (j < i))
def rIge : R2 := rI0 fun i j => .bl (decide (j ≤ i))
def rIeq : R2 := rI0 fun i j => .bl (decide (i = j))
def rIne : R2 := rI0 fun i j => .bl (!decide (i = j))
def rSeq : R2 := fun x y H Q => ∃ a b, x = .str a ∧ y = .str b ∧ Q (.bl (decide (a = b))) H
def rSne : R2 := fun x y H Q => ∃ a b, x = .str a ∧ y = .str b ∧ Q (.bl (!decide (a = b))) H
def rSadd : R2 := fun x y H Q => ∃ i j, x = .str i ∧ y = .str j ∧ i.length + j.length ≤ sizeLine ∧ Q (.str (i ++ j)) H
def rNis : R2 := fun x y H Q => y = .non ∧ Q (.bl (decide (x = .non))) H
def rNno : R2 := fun x y H Q => y = .non ∧ Q (.bl (!decide (x = .non))) H
def rBne : R2 := fun x y H Q => ∃ a b, x = .bl a ∧ y = .bl b ∧ Q (.bl (!decide (a = b))) H
section
variable {X : Cx}
theorem oIadd : OpR X (binaryOp .Add) rIadd := op_add
theorem oIsub : OpR X (binaryOp .Sub) rIsub := op_sub
theorem oImul : OpR X (binaryOp .Mult) rImul := op_mul
theorem oImod : OpR X (binaryOp .Mod) rImod := op_mod
theorem oIdiv : OpR X (binaryOp .FloorDiv) rIdiv := op_fdiv
theorem oIpow : OpR X (binaryOp .Pow) rIpow := op_pow
theorem oIlt : OpR X (compareOp .Lt) rIlt := op_lt
theorem oIle : OpR X (compareOp .LtE) rIle := op_le
theorem oIgt : OpR X (compareOp .Gt) rIgt := op_gt
theorem oIge : OpR X (compareOp .GtE) rIge := op_ge
theorem oSadd : OpR X (binaryOp .Add) rSadd := op_add_str
theorem oNis : OpR X (compareOp .Is) rNis := op_isN
theorem oNno : OpR X (compareOp .IsNot) rNno := op_notN
theorem dint (i j : Int) : decide (V.int i = V.int j) = decide (i = j) := by simp
theorem dstr (i j : Str) : decide (V.str i = V.str j) = decide (i = j) := by simp
theorem dbl (i j : Bool) : decide (V.bl i = V.bl j) = decide (i = j) := by simp
theorem oIeq : OpR X (compareOp .Eq) rIeq := fun pins s σ H x y v u Q I rx ry ⟨i, j, ex, ey, q⟩ => op_eq pins s σ H x y v u Q I rx ry (by subst ex; subst ey; exact ⟨rfl, by rw [dint]; exact q⟩)
theorem oIne : OpR X (compareOp .NotEq) rIne := fun pins s σ H x y v u Q I rx ry ⟨i, j, ex, ey, q⟩ => op_ne pins s σ H x y v u Q I rx ry (by subst ex; subst ey; exact ⟨rfl, by rw [dint]; exact q⟩)
theorem oSeq : OpR X (compareOp .Eq) rSeq := fun pins s σ H x y v u Q I rx ry ⟨i, j, ex, ey, q⟩ => op_eq pins s σ H x y v u Q I rx ry (by subst ex; subst ey; exact ⟨rfl, by rw [dstr]; exact q⟩)
theorem oSne : OpR X (compareOp .NotEq) rSne := fun pins s σ H x y v u Q I rx ry ⟨i, j, ex, ey, q⟩ => op_ne pins s σ H x y v u Q I rx ry (by subst ex; subst ey; exact ⟨rfl, by rw [dstr]; exact q⟩)
theorem oBne : OpR X (compareOp .NotEq) rBne := fun pins s σ H x y v u Q I rx ry ⟨i, j, ex, ey, q⟩ => op_ne pins s σ H x y v u Q I rx ry (by subst ex; subst ey; exact ⟨rfl, by rw [dbl]; exact q⟩)
end

/-! ### steps of a reading -/
section
variable {K : PySem.W.Frag} {nx bk ct : St → Hp → Prop} {rt : VK} {σ : St} {H : Hp} {Q : VK} {t u : TS} {ta tb te tv td ty : TE} {tt tu : TT} {R : Bool → Hp → Prop} {i : Nat} {v x y : V} {r : R2} {ra : List V → Hp → VK → Prop} {as : TA}
  {S : List V → Hp → Prop} {C p : Addr} {f m : Str} {o : HO}
theorem k_seq (h : t ⟨u ⟨nx, rt, bk, ct⟩, rt, bk, ct⟩ σ H) : tSeq t u ⟨nx, rt, bk, ct⟩ σ H := h
theorem k_next (h : nx σ H) : tNext ⟨nx, rt, bk, ct⟩ σ H := h
theorem k_asg (h : te σ H fun v H1 => nx (σ.set i (some v)) H1) : tAsg te (gName i) ⟨nx, rt, bk, ct⟩ σ H := h
theorem k_ret (h : te σ H rt) : tRet te ⟨nx, rt, bk, ct⟩ σ H := h
theorem k_retN (h : rt .non H) : tRetN ⟨nx, rt, bk, ct⟩ σ H := h
theorem k_drop (h : te σ H fun _ H1 => nx σ H1) : tDrop te ⟨nx, rt, bk, ct⟩ σ H := h
theorem k_ifS (h : tt σ H fun b H1 => if b = true then t ⟨nx, rt, bk, ct⟩ σ H1 else u ⟨nx, rt, bk, ct⟩ σ H1) : tIfS tt t u ⟨nx, rt, bk, ct⟩ σ H := h
theorem k_var (h : σ[i]? = some (some v)) (q : Q v H) : tVar i σ H Q := ⟨v, h, q⟩
theorem k_c (q : Q v H) : tC v σ H Q := q
theorem k_op (h : ta σ H fun x H1 => tb σ H1 fun y H2 => r x y H2 Q) : tOp r ta tb σ H Q := h
def LNeg (x : V) (H : Hp) (Q : VK) : Prop := ∃ i, x = .int i ∧ Q (.int (-i)) H
theorem l_neg {i : Int} (q : Q (.int (-i)) H) : LNeg (.int i) H Q := ⟨i, rfl, q⟩
theorem k_neg (h : ta σ H fun x H1 => LNeg x H1 Q) : tUn (rU fun i => .int (-i)) ta σ H Q := h
theorem k_negc {i : Int} (q : Q (.int (-i)) H) : tUn (rU fun i => .int (-i)) (tC (.int i)) σ H Q := ⟨i, rfl, q⟩
theorem k_cb (h : as σ H fun vs H1 => ra vs H1 Q) : tCB ra as σ H Q := h
theorem k_nil (h : S [] H) : tNil σ H S := h
theorem k_cons {ar : TA} (h : te σ H fun x H1 => ar σ H1 fun xs H2 => S (x :: xs) H2) : tCons te ar σ H S := h
theorem k_test (h : te σ H fun x H1 => ∃ k, x = .bl k ∧ R k H1) : tTest te σ H R := h
theorem k_B (h : te σ H fun x H1 => ∃ k, x = .bl k ∧ R k H1) : tB te σ H R := h
theorem k_not (h : tt σ H fun c H1 => R (!c) H1) : tNot tt σ H R := h
theorem k_and (h : tt σ H fun c H1 => if c = true then tu σ H1 R else R false H1) : tAnd tt tu σ H R := h
theorem k_or (h : tt σ H fun c H1 => if c = true then R true H1 else tu σ H1 R) : tOr tt tu σ H R := h
theorem k_notV (h : ta σ H fun x H1 => ∃ c, x = .bl c ∧ Q (.bl (!c)) H1) : tNotV ta σ H Q := h
theorem k_andV (h : ta σ H fun x H1 => ∃ c, x = .bl c ∧ if c = true then tb σ H1 Q else Q (.bl false) H1) : tAndV ta tb σ H Q := h
theorem k_orV (h : ta σ H fun x H1 => ∃ c, x = .bl c ∧ if c = true then Q (.bl true) H1 else tb σ H1 Q) : tOrV ta tb σ H Q := h
theorem k_bl {b : Bool} {P : Bool → Prop} (h : P b) : ∃ c, V.bl b = V.bl c ∧ P c := ⟨b, rfl, h⟩
-- values
theorem k_add {i j : Int} (q : Q (.int (i + j)) H) : rIadd (.int i) (.int j) H Q := ⟨i, j, rfl, rfl, q⟩
theorem k_sub {i j : Int} (q : Q (.int (i - j)) H) : rIsub (.int i) (.int j) H Q := ⟨i, j, rfl, rfl, q⟩
theorem k_mul {i j : Int} (h : CMul i j) (q : Q (.int (i * j)) H) : rImul (.int i) (.int j) H Q := ⟨i, j, rfl, rfl, h, q⟩
theorem k_mod {i j : Int} (h : 0 < j) (q : Q (.int (i % j)) H) : rImod (.int i) (.int j) H Q := ⟨i, j, rfl, rfl, h, q⟩
theorem k_div {i j : Int} (h : CDiv i j) (q : Q (.int (i / j)) H) : rIdiv (.int i) (.int j) H Q := ⟨i, j, rfl, rfl, h, q⟩
theorem k_pow {i j : Int} (h : CPow i j) (q : Q (.int (i ^ j.toNat)) H) : rIpow (.int i) (.int j) H Q := ⟨i, j, rfl, rfl, h, q⟩
theorem k_p6 (q : Q (.int 1000000) H) : rIpow (.int 10) (.int 6) H Q := ⟨10, 6, rfl, rfl, ⟨by decide, by decide, by decide⟩, q⟩
theorem k_p9 (q : Q (.int 1000000000) H) : rIpow (.int 10) (.int 9) H Q := ⟨10, 9, rfl, rfl, ⟨by decide, by decide, by decide⟩, q⟩
theorem k_p12 (q : Q (.int 1000000000000) H) : rIpow (.int 10) (.int 12) H Q := ⟨10, 12, rfl, rfl, ⟨by decide, by decide, by decide⟩, q⟩
theorem k_p13 (q : Q (.int 10000000000000) H) : rIpow (.int 10) (.int 13) H Q := ⟨10, 13, rfl, rfl, ⟨by decide, by decide, by decide⟩, q⟩
theorem k_p18 (q : Q (.int 1000000000000000000) H) : rIpow (.int 10) (.int 18) H Q := ⟨10, 18, rfl, rfl, ⟨by decide, by decide, by decide⟩, q⟩
theorem k_p30 (q : Q (.int 1000000000000000000000000000000) H) : rIpow (.int 10) (.int 30) H Q := ⟨10, 30, rfl, rfl, ⟨by decide, by decide, by decide⟩, q⟩
theorem k_lt {i j : Int} (q : Q (.bl (decide (i < j))) H) : rIlt (.int i) (.int j) H Q := ⟨i, j, rfl, rfl, q⟩
theorem k_le {i j : Int} (q : Q (.bl (decide (i ≤ j))) H) : rIle (.int i) (.int j) H Q := ⟨i, j, rfl, rfl, q⟩
theorem k_gt {i j : Int} (q : Q (.bl (decide (j < i))) H) : rIgt (.int i) (.int j) H Q := ⟨i, j, rfl, rfl, q⟩
theorem k_ge {i j : Int} (q : Q (.bl (decide (j ≤ i))) H) : rIge (.int i) (.int j) H Q := ⟨i, j, rfl, rfl, q⟩
theorem k_eq {i j : Int} (q : Q (.bl (decide (i = j))) H) : rIeq (.int i) (.int j) H Q := ⟨i, j, rfl, rfl, q⟩
theorem k_ne {i j : Int} (q : Q (.bl (!decide (i = j))) H) : rIne (.int i) (.int j) H Q := ⟨i, j, rfl, rfl, q⟩
theorem k_seqS {i j : Str} (q : Q (.bl (decide (i = j))) H) : rSeq (.str i) (.str j) H Q := ⟨i, j, rfl, rfl, q⟩
theorem k_neS {i j : Str} (q : Q (.bl (!decide (i = j))) H) : rSne (.str i) (.str j) H Q := ⟨i, j, rfl, rfl, q⟩
theorem k_neB {i j : Bool} (q : Q (.bl (!decide (i = j))) H) : rBne (.bl i) (.bl j) H Q := ⟨i, j, rfl, rfl, q⟩
theorem k_addS {i j : Str} (h : i.length + j.length ≤ sizeLine) (q : Q (.str (i ++ j)) H) : rSadd (.str i) (.str j) H Q := ⟨i, j, rfl, rfl, h, q⟩
theorem k_isN (q : Q (.bl (decide (x = .non))) H) : rNis x .non H Q := ⟨rfl, q⟩
theorem k_noN (q : Q (.bl (!decide (x = .non))) H) : rNno x .non H Q := ⟨rfl, q⟩
-- fields
def LFld (C : Addr) (f : Str) (x : V) (H : Hp) (Q : VK) : Prop := ∃ a dx fs v, x = .ref a ∧ H a = some (.ins C dx fs) ∧ fs.lookup f = some v ∧ Q v H
theorem k_fld (h : ta σ H fun x H1 => LFld C f x H1 Q) : tFldC C f ta σ H Q := h
theorem l_fld {a dx : Addr} {fs : List (Str × V)} (h : H a = some (.ins C dx fs)) (l : fs.lookup f = some v) (q : Q v H) : LFld C f (.ref a) H Q := ⟨a, dx, fs, v, rfl, h, l, q⟩
def LFldS (C : Addr) (f : Str) (y x : V) (H : Hp) (R : Hp → Prop) : Prop := ∃ a dx fs, x = .ref a ∧ H a = some (.ins C dx fs) ∧ fs.length < 1000 ∧ R (upd H a (.ins C dx (putF f y fs)))
theorem k_fldS (h : tv σ H fun y H1 => ta σ H1 fun x H2 => LFldS C f y x H2 fun H3 => nx σ H3) : sFldC C f ta tv ⟨nx, rt, bk, ct⟩ σ H := h
theorem l_fldS {F : List Addr} {H0 : Hp} {a dx : Addr} {fs fs' : List (Str × V)} {R : Hp → Prop} (r : Run F H0 H) (h : H a = some (.ins C dx fs)) (z : fs.length < 1000) (e : putF f y fs = fs') (w : a ∈ F ∨ H0 a = none)
    (q : ∀ H', Run F H0 H' → H' a = some (.ins C dx fs') → (∀ b, b ≠ a → H' b = H b) → R H') : LFldS C f y (.ref a) H R :=
  ⟨a, dx, fs, rfl, h, z, by rw [e]; exact q _ (r.wr h (by intro _ z; cases z) w) upd_same fun b n => upd_ne n⟩
/-- an object whose method is called -/
def LIns (C : Addr) (m : Str) (x : V) (H : Hp) (P : Prop) : Prop := ∃ a dx fs, x = .ref a ∧ H a = some (.ins C dx fs) ∧ fs.lookup m = none ∧ P
theorem l_ins {a dx : Addr} {fs : List (Str × V)} {P : Prop} (h : H a = some (.ins C dx fs)) (l : fs.lookup m = none) (q : P) : LIns C m (.ref a) H P := ⟨a, dx, fs, rfl, h, l, q⟩
theorem k_methS {sp : Sp} {E : St → XK} (h : ta σ H fun x H1 => LIns C m x H1 (as σ H1 fun vs H2 => sp (x :: vs) H2 Q (E σ))) : tMethS C m sp E ta as σ H Q := h
theorem k_meth0 {sp : Sp} {E : St → XK} (h : ta σ H fun x H1 => LIns C m x H1 (sp [x] H1 Q (E σ))) : tMeth0 C m sp E ta σ H Q := h
theorem k_callS {sp : Sp} {E : St → XK} (h : as σ H fun vs H1 => sp vs H1 Q (E σ)) : tCallS sp E as σ H Q := h
theorem k_callE {sp : SpE} {a : Addr} {c : Value} {d : Option Addr} (h : as σ H fun vs H1 => sp a c d vs H1 Q E0) : tCallE sp a c d as σ H Q := h
-- dicts
def LDGet (x y : V) (H : Hp) (Q : VK) : Prop := ∃ a v, x = .ref a ∧ DGet H a y (some v) ∧ Q v H
theorem k_dget (h : td σ H fun x H1 => ty σ H1 fun y H2 => LDGet x y H2 Q) : tDGet td ty σ H Q := h
def LDIn (y x : V) (H : Hp) (Q : VK) : Prop := ∃ a o, x = .ref a ∧ DGet H a y o ∧ Q (.bl o.isSome) H
theorem k_din (h : ty σ H fun y H1 => td σ H1 fun x H2 => LDIn y x H2 Q) : tDIn ty td σ H Q := h
def LDNotIn (y x : V) (H : Hp) (Q : VK) : Prop := ∃ a o, x = .ref a ∧ DGet H a y o ∧ Q (.bl (!o.isSome)) H
theorem k_dnotin (h : ty σ H fun y H1 => td σ H1 fun x H2 => LDNotIn y x H2 Q) : tDNotIn ty td σ H Q := h
def LDPut (v x y : V) (H : Hp) (R : Hp → Prop) : Prop := ∃ a H4, x = .ref a ∧ DPut H a y v H4 ∧ R H4
theorem k_dput (h : tv σ H fun v H1 => td σ H1 fun x H2 => ty σ H2 fun y H3 => LDPut v x y H3 fun H4 => nx σ H4) : sDPut td ty tv ⟨nx, rt, bk, ct⟩ σ H := h
def LIsD (x : V) (H : Hp) (P : Addr → Prop) : Prop := ∃ a, x = .ref a ∧ IsD H a ∧ P a
def LDPop (a : Addr) (y : V) (H : Hp) (Q : VK) : Prop := ∃ kvs k v, H a = some (.dK kvs) ∧ y = kV k ∧ valV kvs k = some v ∧ Q v (upd H a (.dK (dropK kvs k)))
theorem k_dpop (h : td σ H fun x H1 => LIsD x H1 fun a => ty σ H1 fun y H2 => LDPop a y H2 Q) : tDPop1 td ty σ H Q := h
def LDGet2 (a : Addr) (y z : V) (H : Hp) (Q : VK) : Prop := ∃ o, DGet H a y o ∧ Q (o.getD z) H
theorem k_dget2 (h : td σ H fun x H1 => LIsD x H1 fun a => ty σ H1 fun y H2 => te σ H2 fun z H3 => LDGet2 a y z H3 Q) : tDGet2 td ty te σ H Q := h
theorem l_dgetI {a : Addr} {kvs : List (Key × V)} {n : Int} (h : H a = some (.dK kvs)) (e : valV kvs (Sum.inl n : Key) = some v) (q : Q v H) : LDGet (.ref a) (.int n) H Q := ⟨a, v, rfl, by rw [← e]; exact DGet.k (k := Sum.inl n) h, q⟩
theorem l_dgetS {a : Addr} {kvs : List (Key × V)} {n : Str} (h : H a = some (.dK kvs)) (e : valV kvs (Sum.inr n : Key) = some v) (q : Q v H) : LDGet (.ref a) (.str n) H Q := ⟨a, v, rfl, by rw [← e]; exact DGet.k (k := Sum.inr n) h, q⟩
theorem l_dgetIF {a : Addr} {kvs : List (Key × V)} {n : Int} {ob : Obj} (h : H a = some (.frz ob (.dK kvs))) (e : valV kvs (Sum.inl n : Key) = some v) (q : Q v H) : LDGet (.ref a) (.int n) H Q := ⟨a, v, rfl, .inl ⟨kvs, .inl n, .inr ⟨ob, h⟩, rfl, e.symm⟩, q⟩
theorem l_dgetSF {a : Addr} {kvs : List (Key × V)} {n : Str} {ob : Obj} (h : H a = some (.frz ob (.dK kvs))) (e : valV kvs (Sum.inr n : Key) = some v) (q : Q v H) : LDGet (.ref a) (.str n) H Q := ⟨a, v, rfl, .inl ⟨kvs, .inr n, .inr ⟨ob, h⟩, rfl, e.symm⟩, q⟩
theorem l_dinI {a : Addr} {kvs : List (Key × V)} {n : Int} (h : H a = some (.dK kvs)) (q : Q (.bl (valV kvs (Sum.inl n : Key)).isSome) H) : LDIn (.int n) (.ref a) H Q := ⟨a, _, rfl, DGet.k (k := Sum.inl n) h, q⟩
theorem l_dinS {a : Addr} {kvs : List (Key × V)} {n : Str} (h : H a = some (.dK kvs)) (q : Q (.bl (valV kvs (Sum.inr n : Key)).isSome) H) : LDIn (.str n) (.ref a) H Q := ⟨a, _, rfl, DGet.k (k := Sum.inr n) h, q⟩
theorem l_dnotinI {a : Addr} {kvs : List (Key × V)} {n : Int} (h : H a = some (.dK kvs)) (q : Q (.bl (!(valV kvs (Sum.inl n : Key)).isSome)) H) : LDNotIn (.int n) (.ref a) H Q := ⟨a, _, rfl, DGet.k (k := Sum.inl n) h, q⟩
theorem l_dnotinS {a : Addr} {kvs : List (Key × V)} {n : Str} (h : H a = some (.dK kvs)) (q : Q (.bl (!(valV kvs (Sum.inr n : Key)).isSome)) H) : LDNotIn (.str n) (.ref a) H Q := ⟨a, _, rfl, DGet.k (k := Sum.inr n) h, q⟩
theorem l_dputI {F : List Addr} {H0 : Hp} {a : Addr} {kvs kvs' : List (Key × V)} {n : Int} {R : Hp → Prop} (r : Run F H0 H) (h : H a = some (.dK kvs)) (z : kvs.length < sizeLine) (e : putK kvs (Sum.inl n : Key) v = kvs') (w : a ∈ F ∨ H0 a = none)
    (q : ∀ H', Run F H0 H' → H' a = some (.dK kvs') → (∀ b, b ≠ a → H' b = H b) → R H') : LDPut v (.ref a) (.int n) H R :=
  ⟨a, _, rfl, DPut.k (k := Sum.inl n) h z, q _ (r.wr h (by intro _ z; cases z) w) (by rw [← e]; exact upd_same) fun b n => upd_ne n⟩
theorem l_dputS {F : List Addr} {H0 : Hp} {a : Addr} {kvs kvs' : List (Key × V)} {n : Str} {R : Hp → Prop} (r : Run F H0 H) (h : H a = some (.dK kvs)) (z : kvs.length < sizeLine) (e : putK kvs (Sum.inr n : Key) v = kvs') (w : a ∈ F ∨ H0 a = none)
    (q : ∀ H', Run F H0 H' → H' a = some (.dK kvs') → (∀ b, b ≠ a → H' b = H b) → R H') : LDPut v (.ref a) (.str n) H R :=
  ⟨a, _, rfl, DPut.k (k := Sum.inr n) h z, q _ (r.wr h (by intro _ z; cases z) w) (by rw [← e]; exact upd_same) fun b n => upd_ne n⟩
theorem l_isD {a : Addr} {kvs : List (Key × V)} {P : Addr → Prop} (h : H a = some (.dK kvs)) (q : P a) : LIsD (.ref a) H P := ⟨a, rfl, .inl ⟨kvs, .inl h⟩, q⟩
theorem l_dpopI {F : List Addr} {H0 : Hp} {a : Addr} {kvs kvs' : List (Key × V)} {n : Int} (r : Run F H0 H) (h : H a = some (.dK kvs)) (e : valV kvs (Sum.inl n : Key) = some v) (e2 : dropK kvs (Sum.inl n : Key) = kvs') (w : a ∈ F ∨ H0 a = none)
    (q : ∀ H', Run F H0 H' → H' a = some (.dK kvs') → (∀ b, b ≠ a → H' b = H b) → Q v H') : LDPop a (.int n) H Q :=
  ⟨kvs, Sum.inl n, v, h, rfl, e, q _ (r.wr h (by intro _ z; cases z) w) (by rw [← e2]; exact upd_same) fun b n => upd_ne n⟩
theorem l_dpopS {F : List Addr} {H0 : Hp} {a : Addr} {kvs kvs' : List (Key × V)} {n : Str} (r : Run F H0 H) (h : H a = some (.dK kvs)) (e : valV kvs (Sum.inr n : Key) = some v) (e2 : dropK kvs (Sum.inr n : Key) = kvs') (w : a ∈ F ∨ H0 a = none)
    (q : ∀ H', Run F H0 H' → H' a = some (.dK kvs') → (∀ b, b ≠ a → H' b = H b) → Q v H') : LDPop a (.str n) H Q :=
  ⟨kvs, Sum.inr n, v, h, rfl, e, q _ (r.wr h (by intro _ z; cases z) w) (by rw [← e2]; exact upd_same) fun b n => upd_ne n⟩
theorem l_dget2S {a : Addr} {kvs : List (Key × V)} {n : Str} (h : H a = some (.dK kvs)) (q : Q ((valV kvs (Sum.inr n : Key)).getD x) H) : LDGet2 a (.str n) x H Q := ⟨_, DGet.k (k := Sum.inr n) h, q⟩
-- new lists, tuples
def LNew (o : HO) (H : Hp) (Q : VK) : Prop := ∀ p, H p = none → Q (.ref p) (upd H p o)
def LTup (vs : List V) (H : Hp) (Q : VK) : Prop := vs.length ≤ sizeLine ∧ LNew (.tup vs) H Q
def LLst (vs : List V) (H : Hp) (Q : VK) : Prop := vs.length ≤ sizeLine ∧ LNew (.lst vs) H Q
theorem k_tup (h : as σ H fun vs H1 => LTup vs H1 Q) : tTup as σ H Q := h
theorem k_lst (h : as σ H fun vs H1 => LLst vs H1 Q) : tLst as σ H Q := h
theorem l_tup {vs : List V} (z : vs.length ≤ 1000) (q : LNew (.tup vs) H Q) : LTup vs H Q := ⟨Nat.le_trans z (by decide), q⟩
theorem l_lst {vs : List V} (z : vs.length ≤ 1000) (q : LNew (.lst vs) H Q) : LLst vs H Q := ⟨Nat.le_trans z (by decide), q⟩
theorem k_dnew (q : LNew (.dK []) H Q) : tDNewK σ H Q := q
/-- a new object: the heap behind it by what is known of it -/
theorem l_new {F : List Addr} {H0 : Hp} (r : Run F H0 H) (q : ∀ p H', H0 p = none → p ∉ F → H p = none → Run F H0 H' → H' p = some o → Same H H' → Q (.ref p) H') : LNew o H Q := fun p hp =>
  let ⟨r1, r2, r3⟩ := r.new hp
  q p _ r2 r3 hp r1 upd_same (fun a u e => by rw [upd_ne (ne_of_none e hp)]; exact e)
/-- xs.append(e) -/
theorem k_append {K : PySem.W.Frag} (h : ta σ H fun x H1 => tyV K "list" x H1 ∧ as σ H1 fun xs H2 => rAppend x xs H2 Q) : tBM K "list" rAppend ta as σ H Q := h
theorem l_tyL {K : PySem.W.Frag} {a : Addr} {xs : List V} {P : Prop} (h : H a = some (.lst xs)) (q : P) : tyV K "list" (.ref a) H ∧ P := ⟨.inl ⟨rfl, xs, SqL.of h⟩, q⟩
theorem l_append {F : List Addr} {H0 : Hp} {a : Addr} {xs : List V} (r : Run F H0 H) (h : H a = some (.lst xs)) (z : xs.length < sizeLine) (w : a ∈ F ∨ H0 a = none)
    (q : ∀ H', Run F H0 H' → H' a = some (.lst (xs ++ [v])) → (∀ b, b ≠ a → H' b = H b) → Q .non H') : rAppend (.ref a) [v] H Q :=
  ⟨a, xs, v, rfl, rfl, h, z, q _ (r.wr h (by intro _ z; cases z) w) upd_same fun b n => upd_ne n⟩
-- items
def LIxL (K : PySem.W.Frag) (x y : V) (H : Hp) (Q : VK) : Prop := rIxL K x y H Q
theorem l_ixL {a : Addr} {xs : List V} {n : Int} (h : SqL K H a xs) (e : atI xs n = some v) (q : Q v H) : rIxL K (.ref a) (.int n) H Q := ⟨a, xs, n, v, rfl, rfl, h, e, q⟩
theorem l_ixT {a : Addr} {xs : List V} {n : Int} (h : SqT K H a xs) (e : atI xs n = some v) (q : Q v H) : rIxT K (.ref a) (.int n) H Q := ⟨a, xs, n, v, rfl, rfl, h, e, q⟩
theorem k_ift {A B : Prop} (h : A) : if true = true then A else B := by rw [if_pos rfl]; exact h
theorem k_iff {A B : Prop} (h : B) : if false = true then A else B := by rw [if_neg Bool.false_ne_true]; exact h
theorem k_if {b : Bool} {A B : Prop} (h1 : b = true → A) (h0 : b = false → B) : if b = true then A else B := by
  cases b with
  | true => exact k_ift (h1 rfl)
  | false => exact k_iff (h0 rfl)
/-- a test on a proposition -/
theorem k_ifd {p : Prop} [Decidable p] {A B : Prop} (h1 : p → A) (h0 : ¬ p → B) : if decide p = true then A else B := k_if (fun e => h1 (of_decide_eq_true e)) fun e => h0 (of_decide_eq_false e)
theorem k_ifnd {p : Prop} [Decidable p] {A B : Prop} (h1 : ¬ p → A) (h0 : p → B) : if (!decide p) = true then A else B := by
  by_cases h : p
  · rw [decide_eq_true h]
    exact k_iff (h0 h)
  · rw [decide_eq_false h]
    exact k_ift (h1 h)
-- constructors
theorem k_makeS {sp : Sp} {E : St → XK} (h : as σ H fun vs H1 => LMake C (fun x => .ref x :: vs) sp H1 Q (E σ)) : tMakeS C sp E as σ H Q := h
theorem k_makeG {sp : Sp} {n m : Nat} {gV : List V → List V → List V} {E : St → XK} {tk : TA} (h : as σ H fun vs H1 => tk σ H1 fun zs H2 => vs.length = n ∧ zs.length = m ∧ LMake C (fun x => gV (.ref x :: vs) zs) sp H2 Q (E σ)) : tMakeG C n m sp gV E as tk σ H Q := h
theorem l_make {F : List Addr} {H0 : Hp} {as : Addr → List V} {sp : Sp} {E : XK} (r : Run F H0 H)
    (q : ∀ x dx H', H0 x = none → x ∉ F → H x = none → Run F H0 H' → H' x = some (.ins C dx []) → Same H H' → sp (as x) H' (fun v H2 => v = .non ∧ Q (.ref x) H2) E) : LMake C as sp H Q E := fun x dx hx hd ne => by
  have s1 : Same H (upd H dx (.own x)) := fun a u e => by rw [upd_ne (ne_of_none e hd)]; exact e
  have hx1 : upd H dx (.own x) x = none := (upd_ne ne.symm).trans hx
  have s2 : Same (upd H dx (.own x)) (upd (upd H dx (.own x)) x (.ins C dx [])) := fun a u e => by rw [upd_ne (ne_of_none e hx1)]; exact e
  obtain ⟨ra, _, _⟩ := r.new (o := .own x) hd
  obtain ⟨rb, f1, f2⟩ := ra.new (o := .ins C dx []) hx1
  exact q x dx _ f1 f2 hx rb upd_same (fun a u e => s2 a u (s1 a u e))
theorem k_made {p : Addr} (q : Q (.ref p) H) : V.non = .non ∧ Q (.ref p) H := ⟨rfl, q⟩
end
end LW
namespace LW
open PySem L2
theorem hf_n {H H' : Hp} {a b : Addr} {o : HO} (n : ∀ b, b ≠ a → H' b = H b) (h : H b = some o) (ne : b ≠ a) : H' b = some o := (n b ne).trans h
theorem hf_s {H H' : Hp} {b : Addr} {o : HO} (s : Same H H') (h : H b = some o) : H' b = some o := s b o h
theorem hf_e {F : List Addr} {H H' : Hp} {b : Addr} {o : HO} (s : Ext F H H') (h : H b = some o) (n : b ∉ F) : H' b = some o := s.keep b o h n
theorem notin_nil {a : Addr} : a ∉ ([] : List Addr) := List.not_mem_nil
theorem notin_cons {a b : Addr} {l : List Addr} (h : a ≠ b) (n : a ∉ l) : a ∉ b :: l := fun z => (List.mem_cons.mp z).elim h n
end LW

set_option maxHeartbeats 4000000
namespace LW
open PySem PySem.Spec PyProof.Rows L2
theorem tkd {P : Program} {w : World} {K : PySem.W.Frag} {mg : Str → Option Value} {base : Heap} {N : List Str} {qual : Str} {scope : Scope} {f : Addr} {cd : Value} {A : Around} {outer : List Env} {s : Shared} {H : Hp} {E : XK} :
    L2N.Takes (cxOf (L2N.CX P w) P w K mg base N qual scope f cd A outer s H E) (fun cls d _ H => E cls d H) := L2N.takes_of rfl rfl rfl rfl
theorem pod {P : Program} {w : World} {K : PySem.W.Frag} {mg : Str → Option Value} {base : Heap} {N : List Str} {qual : Str} {scope : Scope} {f : Addr} {cd : Value} {A : Around} {outer : List Env} {s : Shared} {H : Hp} {E : XK} :
    PassesOwn (model P w) (cxOf (L2N.CX P w) P w K mg base N qual scope f cd A outer s H E).A (cxOf (L2N.CX P w) P w K mg base N qual scope f cd A outer s H E).env (cxOf (L2N.CX P w) P w K mg base N qual scope f cd A outer s H E).xe :=
  L2.passes_of (X := cxOf (L2N.CX P w) P w K mg base N qual scope f cd A outer s H E) rfl
theorem tk0 {X : Cx} : L2N.Takes X (fun _ _ _ _ => False) := fun _ _ x => by
  obtain ⟨_, _, _, _, _, _, _, _, _, _, _, _, _, _, _, _, z⟩ := x
  exact z.elim

theorem pe_globI {X : Cx} {x : Str} {i : Int} {t : Tok} {pos : Pos} (hg : Gl X x) (hm : X.mg x = some (.int i t)) (hd : (x == ("__debug__" : Str)) = false := by decide) : PE X (.Name x pos) (tC (.int i)) := pe_glob hg hm ⟨_, rfl⟩ hd

/-- a built-in type by its name -/
theorem pe_bltT {X : Cx} {x : Str} {n : String} {pos : Pos} (hg : Gl X x) (hm : X.mg x = none) (hv : bootBuiltins x = some (.type n)) (hn : x ≠ "__name__" := by decide) (hd : (x == ("__debug__" : Str)) = false := by decide) : PE X (.Name x pos) (tC (.ty n)) :=
  pe_bltn hg hm hv rfl hn hd
/-! ### tuples are kept -/
def TupK (H H' : Hp) : Prop := ∀ a xs, H a = some (.tup xs) → H' a = some (.tup xs)
theorem TupK.trans {H H1 H2 : Hp} (a : TupK H H1) (b : TupK H1 H2) : TupK H H2 := fun c xs h => b c xs (a c xs h)
theorem TupK.of {F : List Addr} {H H' : Hp} (e : Ext F H H') : TupK H H' := e.tups
theorem TupK.upd {H : Hp} {p : Addr} {o : HO} (h : ∀ xs, H p ≠ some (.tup xs)) : TupK H (upd H p o) := fun a xs e => by
  rw [upd_ne fun z => h xs (by rw [← z]; exact e)]
  exact e

/-! ### for -/
section
variable {K : PySem.W.Frag} {nx bk ct : St → Hp → Prop} {rt : VK} {σ : St} {H : Hp} {Q : VK} {tb : TS} {g : TG} {te tl td : TE} {tt : TT} {ta : TA}
def LFor (K : PySem.W.Frag) (g : TG) (tb : TS) (D : Ends) (σ : St) (x : V) (H : Hp) : Prop := ∃ a, x = .ref a ∧ (∃ xs, SqL K H a xs) ∧ ∃ W : Nat → Nat → St → Hp → Prop, (∃ m, W 0 m σ H) ∧ ∀ i m σ H, W i m σ H →
  ((Itl K a).stop i H ∧ D.nx σ H) ∨ ((Itl K a).go i H ∧ ∃ N : St → Hp → Prop, (∀ σ' H', N σ' H' → ∃ m', m' < m ∧ W (i + 1) m' σ' H') ∧ ∀ x H', (Itl K a).yld i H x H' → g x σ H' fun σ2 H2 => tb { D with nx := N, ct := N, bk := D.nx } σ2 H2)
theorem k_for (h : tl σ H fun x H1 => LFor K g tb ⟨nx, rt, bk, ct⟩ σ x H1) : tFor (iList K tl) g tb ⟨nx, rt, bk, ct⟩ σ H := h
/-- over a list that stays: P ahead of turn i -/
theorem l_for {a : Addr} {xs : List V} (h : SqL K H a xs) (Pv : Nat → St → Hp → Prop) (h0 : Pv 0 σ H) (hl : ∀ i σ H, i ≤ xs.length → Pv i σ H → SqL K H a xs)
    (hs : ∀ i x σ H, xs[i]? = some x → Pv i σ H → g x σ H fun σ2 H2 => tb ⟨Pv (i + 1), rt, nx, Pv (i + 1)⟩ σ2 H2) (hd : ∀ σ H, Pv xs.length σ H → nx σ H) :
    LFor K g tb ⟨nx, rt, bk, ct⟩ σ (.ref a) H := ⟨a, rfl, ⟨xs, h⟩, for_list (D := ⟨nx, rt, bk, ct⟩) Pv h0 hl hs hd⟩
def LRng (g : TG) (tb : TS) (D : Ends) (σ : St) (lo : Int) (n : Nat) (H : Hp) : Prop := ∃ W : Nat → Nat → St → Hp → Prop, (∃ m, W 0 m σ H) ∧ ∀ i m σ H, W i m σ H →
  ((Itr lo n).stop i H ∧ D.nx σ H) ∨ ((Itr lo n).go i H ∧ ∃ N : St → Hp → Prop, (∀ σ' H', N σ' H' → ∃ m', m' < m ∧ W (i + 1) m' σ' H') ∧ ∀ x H', (Itr lo n).yld i H x H' → g x σ H' fun σ2 H2 => tb { D with nx := N, ct := N, bk := D.nx } σ2 H2)
theorem l_rng {lo : Int} {n : Nat} (Pv : Nat → St → Hp → Prop) (h0 : Pv 0 σ H)
    (hs : ∀ i σ H, i < n → Pv i σ H → g (.int (lo + i)) σ H fun σ2 H2 => tb ⟨Pv (i + 1), rt, nx, Pv (i + 1)⟩ σ2 H2) (hd : ∀ σ H, Pv n σ H → nx σ H) :
    LRng g tb ⟨nx, rt, bk, ct⟩ σ lo n H := for_range (D := ⟨nx, rt, bk, ct⟩) Pv h0 hs hd
def LRngC (g : TG) (tb : TS) (D : Ends) (σ : St) (lo c : Int) (n : Nat) (H : Hp) : Prop := ∃ W : Nat → Nat → St → Hp → Prop, (∃ m, W 0 m σ H) ∧ ∀ i m σ H, W i m σ H →
  ((Itc lo c n).stop i H ∧ D.nx σ H) ∨ ((Itc lo c n).go i H ∧ ∃ N : St → Hp → Prop, (∀ σ' H', N σ' H' → ∃ m', m' < m ∧ W (i + 1) m' σ' H') ∧ ∀ x H', (Itc lo c n).yld i H x H' → g x σ H' fun σ2 H2 => tb { D with nx := N, ct := N, bk := D.nx } σ2 H2)
/-- how many turns -/
def stepN (i j c : Int) : Nat := (Builtin.Range.rangeSize i j c).toNat
theorem stepN_eq {i j c : Int} (hc : 0 < c) : (stepN i j c : Int) = if i < j then (j - i - 1) / c + 1 else 0 := by
  unfold stepN Builtin.Range.rangeSize
  rw [if_pos hc]
  by_cases h : i < j
  · rw [if_pos h]
    have : 0 ≤ (j - i - 1) / c := Int.ediv_nonneg (by omega) (by omega)
    omega
  · rw [if_neg h]; rfl
theorem rgc_up {i j c : Int} (h1 : 0 ≤ i) (h2 : i ≤ 100000) (h3 : -100000 ≤ j) (h4 : j ≤ 100000) (h5 : 0 < c) (h6 : c ≤ 1000) : RgC i j c (stepN i j c) := by
  have e : Builtin.Range.rangeSize i j c = if i < j then (j - i - 1) / c + 1 else 0 := by
    unfold Builtin.Range.rangeSize
    rw [if_pos h5]
  have b : i < j → 0 ≤ (j - i - 1) / c ∧ (j - i - 1) / c ≤ j - i - 1 := fun h => ⟨Int.ediv_nonneg (by omega) (by omega), Int.ediv_le_self _ (by omega)⟩
  refine ⟨by omega, by omega, ?_, ?_⟩
  · unfold Builtin.Range.small
    rw [e]
    simp only [Builtin.Range.rangeFitsLong, Bool.and_eq_true, Bool.or_eq_true, decide_eq_true_eq, beq_iff_eq, h5, if_true]
    by_cases h : i < j
    · have := b h
      simp only [h, if_true]
      refine ⟨?_, ?_⟩ <;> first | omega | (refine ⟨?_, ?_⟩ <;> omega)
    · simp only [h, if_false]
      refine ⟨?_, ?_⟩ <;> first | omega | (refine ⟨?_, ?_⟩ <;> omega)
  · rw [stepN_eq h5, e]
def LR3 (g : TG) (tb : TS) (D : Ends) (σ : St) (vs : List V) (H : Hp) : Prop := ∃ (i j c : Int) (n : Nat), vs = [.int i, .int j, .int c] ∧ RgC i j c n ∧ LRngC g tb D σ i c n H
theorem k_rng3 (h : ta σ H fun vs H1 => LR3 g tb ⟨nx, rt, bk, ct⟩ σ vs H1) : tFor (iRng3 ta) g tb ⟨nx, rt, bk, ct⟩ σ H := h
theorem l_rng3 {D : Ends} {i j c : Int} (h : 0 ≤ i ∧ i ≤ 100000 ∧ -100000 ≤ j ∧ j ≤ 100000 ∧ 0 < c ∧ c ≤ 1000) (q : LRngC g tb D σ i c (stepN i j c) H) : LR3 g tb D σ [.int i, .int j, .int c] H :=
  ⟨i, j, c, _, rfl, let ⟨h1, h2, h3, h4, h5, h6⟩ := h; rgc_up h1 h2 h3 h4 h5 h6, q⟩
def LR2 (g : TG) (tb : TS) (D : Ends) (σ : St) (vs : List V) (H : Hp) : Prop := ∃ i j : Int, vs = [.int i, .int j] ∧ (-(2 ^ 62) ≤ i ∧ i < 2 ^ 62 ∧ -(2 ^ 62) ≤ j ∧ j < 2 ^ 62) ∧ LRng g tb D σ i (j - i).toNat H
theorem k_rng2 (h : ta σ H fun vs H1 => LR2 g tb ⟨nx, rt, bk, ct⟩ σ vs H1) : tFor (iRng2 ta) g tb ⟨nx, rt, bk, ct⟩ σ H := h
theorem l_rng2 {D : Ends} {i j : Int} (h : -100000 ≤ i ∧ i ≤ 100000 ∧ -100000 ≤ j ∧ j ≤ 100000) (q : LRng g tb D σ i (j - i).toNat H) : LR2 g tb D σ [.int i, .int j] H :=
  ⟨i, j, rfl, let ⟨h1, h2, h3, h4⟩ := h; ⟨by omega, by omega, by omega, by omega⟩, q⟩
def LR1 (g : TG) (tb : TS) (D : Ends) (σ : St) (vs : List V) (H : Hp) : Prop := ∃ j : Int, vs = [.int j] ∧ -(2 ^ 62) ≤ j ∧ j < 2 ^ 62 ∧ LRng g tb D σ 0 j.toNat H
theorem k_rng1 (h : ta σ H fun vs H1 => LR1 g tb ⟨nx, rt, bk, ct⟩ σ vs H1) : tFor (iRng1 ta) g tb ⟨nx, rt, bk, ct⟩ σ H := h
theorem l_rng1 {D : Ends} {j : Int} (h : -100000 ≤ j ∧ j ≤ 100000) (q : LRng g tb D σ 0 j.toNat H) : LR1 g tb D σ [.int j] H := ⟨j, rfl, by omega, by omega, q⟩
theorem l_rngC {lo c : Int} {n : Nat} (Pv : Nat → St → Hp → Prop) (h0 : Pv 0 σ H)
    (hs : ∀ i σ H, i < n → Pv i σ H → g (.int (lo + (i : Nat) * c)) σ H fun σ2 H2 => tb ⟨Pv (i + 1), rt, nx, Pv (i + 1)⟩ σ2 H2) (hd : ∀ σ H, Pv n σ H → nx σ H) :
    LRngC g tb ⟨nx, rt, bk, ct⟩ σ lo c n H := for_rangeC (D := ⟨nx, rt, bk, ct⟩) Pv h0 hs hd
theorem g_name {j : Nat} {x : V} {R : St → Hp → Prop} (h : R (σ.set j (some x)) H) : gName j x σ H R := h

/-! ### comprehensions -/
theorem sets3 (σ : St) (j : Nat) (x : Option V) : (σ.set j none).set j x = σ.set j x := by rw [List.set_set]
/-- over the keys of a dict; P i acc H: what the list holds behind i turns, by tuples alone -/
theorem lc_keys {d : Addr} {kvs : List (Key × V)} {j : Nat} (hd : H d = some (.dK kvs)) (hz : kvs.length < sizeLine)
    (htd : ∀ od (R : VK), R (.ref d) (upd H d (.frz od (.dK kvs))) → td σ (upd H d (.frz od (.dK kvs))) R)
    (P : Nat → List V → Hp → Prop) (h0 : P 0 [] H) (hP : ∀ i acc H1 H2, TupK H1 H2 → P i acc H1 → P i acc H2)
    (hs : ∀ i k v od acc H1 (R : VK) (R0 : Hp → Prop), kvs[i]? = some (k, v) → H1 d = some (.frz od (.dK kvs)) → (∀ a o, a ≠ d → H a = some o → H1 a = some o) → acc.length ≤ i → P i acc H1 →
      (∀ y H4, Ext [] H1 H4 → P (i + 1) (acc ++ [y]) H4 → R y H4) → (∀ H3, Ext [] H1 H3 → P (i + 1) acc H3 → R0 H3) →
      tt (σ.set j (some (kV k))) H1 fun b H3 => if b = true then te (σ.set j (some (kV k))) H3 R else R0 H3)
    (q : ∀ D H' acc, H D = none → Ext [] H H' → H' D = some (.lst acc) → acc.length ≤ kvs.length → P kvs.length acc H' → Q (.ref D) H') :
    tLockE (tLc (iKeys td) (gName j) tt te [j]) σ H Q := by
  refine ⟨d, .dK kvs, hd, trivial, fun od => ?_⟩
  refine htd od _ ⟨d, od, rfl, .inl ⟨kvs, upd_same, fun D hD => ?_⟩⟩
  have dD : D ≠ d := fun z => by rw [z, upd_same] at hD; cases hD
  have hD0 : H D = none := by rw [← hD, upd_ne dD]
  -- what holds ahead of turn i
  refine ⟨fun i m H1 => m = kvs.length - i ∧ i ≤ kvs.length ∧ ∃ acc, H1 D = some (.lst acc) ∧ acc.length ≤ i ∧ H1 d = some (.frz od (.dK kvs)) ∧ (∀ a o, a ≠ d → H a = some o → H1 a = some o) ∧ P i acc H1,
    ⟨kvs.length, by simp, Nat.zero_le _, [], upd_same, Nat.le_refl _, by rw [upd_ne dD.symm, upd_same], fun a o h e => ?_, hP 0 [] H _ (fun a xs e => ?_) h0⟩, ?_⟩
  · rw [upd_ne (ne_of_none e hD0), upd_ne h]
    exact e
  · rw [upd_ne (ne_of_none e hD0), upd_ne (ne_of e hd fun z => by cases z)]
    exact e
  rintro i m H1 ⟨rfl, hi, acc, hA, hl, hf, hk, p⟩
  by_cases hlt : i < kvs.length
  · refine .inr ⟨⟨hf, hlt⟩, fun H' => (i + 1 ≤ kvs.length ∧ ∃ acc, H' D = some (.lst acc) ∧ acc.length ≤ i + 1 ∧ H' d = some (.frz od (.dK kvs)) ∧ (∀ a o, a ≠ d → H a = some o → H' a = some o) ∧ P (i + 1) acc H'),
      fun H' p' => ⟨kvs.length - (i + 1), by omega, rfl, p'.1, p'.2⟩, fun x H' y => ?_⟩
    obtain ⟨e, k, v, ek, ex⟩ := y
    subst e ex
    show gName j (kV k) (wipe σ [j]) _ _
    have e1 : (wipe σ [j]).set j (some (kV k)) = σ.set j (some (kV k)) := sets3 σ j _
    have e2 : wipe ((wipe σ [j]).set j (some (kV k))) [j] = wipe σ [j] := by
      show ((σ.set j none).set j (some (kV k))).set j none = σ.set j none
      rw [List.set_set, List.set_set]
    refine ⟨e2, ?_⟩
    rw [e1]
    refine hs i k v od acc H' _ _ ek hf hk hl p (fun y H4 e4 p4 => ?_) fun H3 e3 p3 => ?_
    · have h4 : H4 D = some (.lst acc) := e4.keep _ _ hA (by simp)
      refine ⟨acc, h4, Nat.lt_of_le_of_lt hl (Nat.lt_trans hlt hz), hlt, acc ++ [y], upd_same, by rw [List.length_append]; simpa using hl, by rw [upd_ne dD.symm]; exact e4.keep _ _ hf (by simp), fun a o n e => ?_,
        hP _ _ H4 _ (TupK.upd fun xs z => by rw [h4] at z; cases z) p4⟩
      rw [upd_ne (ne_of_none e hD0)]
      exact e4.keep _ _ (hk a o n e) (by simp)
    · exact ⟨hlt, acc, e3.keep _ _ hA (by simp), Nat.le_succ_of_le hl, e3.keep _ _ hf (by simp), fun a o n e => e3.keep _ _ (hk a o n e) (by simp), p3⟩
  · have e : i = kvs.length := by omega
    subst e
    refine .inl ⟨⟨hf, Nat.le_refl _⟩, hf, q D _ acc hD0 ⟨fun a o e _ => ?_, fun a xs e => ?_⟩ ?_ (by omega) (hP _ _ H1 _ (TupK.upd fun xs z => by rw [hf] at z; cases z) p)⟩
    · by_cases z : a = d
      · rw [z, upd_same, ← hd, ← z]; exact e
      · rw [upd_ne z]; exact hk a o z e
    · have z : a ≠ d := ne_of e hd fun z => by cases z
      rw [upd_ne z]; exact hk a _ z e
    · rw [upd_ne dD]; exact hA
end
end LW

set_option maxHeartbeats 4000000
namespace LW
open PySem PySem.Spec PyProof.Rows L2
/-! ### tables as lists of pairs -/
section
variable {κ α : Type} [DecidableEq κ]
def aget (l : List (κ × α)) (k : κ) : Option α := (l.find? fun p => decide (p.1 = k)).map (·.2)
def aput (l : List (κ × α)) (k : κ) (v : α) : List (κ × α) := if (l.any fun p => decide (p.1 = k)) = true then l.map (fun p => if p.1 = k then (p.1, v) else p) else l ++ [(k, v)]
def adrop (l : List (κ × α)) (k : κ) : List (κ × α) := l.filter fun p => decide (p.1 ≠ k)
theorem aget_nil {k : κ} : aget ([] : List (κ × α)) k = none := rfl
theorem aget_cons {p : κ × α} {r : List (κ × α)} {k : κ} : aget (p :: r) k = if p.1 = k then some p.2 else aget r k := by
  unfold aget
  rw [List.find?_cons]
  by_cases h : p.1 = k
  · simp [h]
  · simp [h]
theorem aget_none {l : List (κ × α)} {k : κ} : aget l k = none ↔ k ∉ l.map (·.1) := by
  induction l with
  | nil => simp [aget_nil]
  | cons p r ih =>
    rw [aget_cons, List.map_cons, List.mem_cons]
    by_cases h : p.1 = k
    · simp [h]
    · rw [if_neg h, ih]
      constructor
      · rintro a (b | b)
        · exact h b.symm
        · exact a b
      · exact fun a b => a (.inr b)
theorem aget_some_mem {l : List (κ × α)} {k : κ} {v : α} (h : aget l k = some v) : (k, v) ∈ l := by
  induction l with
  | nil => cases h
  | cons p r ih =>
    rw [aget_cons] at h
    by_cases e : p.1 = k
    · rw [if_pos e] at h
      cases h
      subst e
      exact List.mem_cons_self
    · rw [if_neg e] at h
      exact List.mem_cons_of_mem _ (ih h)
theorem aget_of_mem {l : List (κ × α)} {k : κ} {v : α} (nd : (l.map (·.1)).Nodup) (h : (k, v) ∈ l) : aget l k = some v := by
  induction l with
  | nil => cases h
  | cons p r ih =>
    rw [List.map_cons, List.nodup_cons] at nd
    rw [aget_cons]
    rcases List.mem_cons.mp h with e | e
    · subst e; simp
    · have : ¬ p.1 = k := fun z => nd.1 (z ▸ List.mem_map.mpr ⟨(k, v), e, rfl⟩)
      rw [if_neg this]
      exact ih nd.2 e
theorem aany {l : List (κ × α)} {k : κ} : (l.any fun p => decide (p.1 = k)) = (aget l k).isSome := by
  induction l with
  | nil => rfl
  | cons p r ih =>
    rw [List.any_cons, aget_cons, ih]
    by_cases h : p.1 = k <;> simp [h]
theorem aput_new {l : List (κ × α)} {k : κ} {v : α} (h : aget l k = none) : aput l k v = l ++ [(k, v)] := by
  unfold aput
  rw [aany, h]
  rfl
theorem aput_old {l : List (κ × α)} {k : κ} {v u : α} (h : aget l k = some u) : aput l k v = l.map (fun p => if p.1 = k then (p.1, v) else p) := by
  unfold aput
  rw [aany, h]
  rfl
theorem keys_aput_old {l : List (κ × α)} {k : κ} {v u : α} (h : aget l k = some u) : (aput l k v).map (·.1) = l.map (·.1) := by
  rw [aput_old h, List.map_map]
  refine List.map_congr_left fun p _ => ?_
  show (if p.1 = k then (p.1, v) else p).1 = p.1
  by_cases e : p.1 = k <;> simp [e]
theorem keys_aput_new {l : List (κ × α)} {k : κ} {v : α} (h : aget l k = none) : (aput l k v).map (·.1) = l.map (·.1) ++ [k] := by
  rw [aput_new h, List.map_append]
  rfl
theorem length_aput {l : List (κ × α)} {k : κ} {v : α} : (aput l k v).length ≤ l.length + 1 := by
  unfold aput
  split
  · rw [List.length_map]; omega
  · rw [List.length_append]; simp
theorem nodup_aput {l : List (κ × α)} {k : κ} {v : α} (h : (l.map (·.1)).Nodup) : ((aput l k v).map (·.1)).Nodup := by
  cases e : aget l k with
  | none =>
    rw [keys_aput_new e]
    refine List.nodup_append.mpr ⟨h, by simp, fun a m b n => ?_⟩
    rw [List.mem_singleton] at n
    subst n
    exact fun z => aget_none.mp e (z ▸ m)
  | some u => rw [keys_aput_old e]; exact h
theorem mem_keys_aput {l : List (κ × α)} {k j : κ} {v : α} : j ∈ (aput l k v).map (·.1) ↔ j = k ∨ j ∈ l.map (·.1) := by
  cases e : aget l k with
  | none => rw [keys_aput_new e]; simp [or_comm]
  | some u =>
    rw [keys_aput_old e]
    constructor
    · exact .inr
    · rintro (rfl | h)
      · exact List.mem_map.mpr ⟨_, aget_some_mem e, rfl⟩
      · exact h
theorem aget_aput {l : List (κ × α)} {k j : κ} {v : α} : aget (aput l k v) j = if k = j then some v else aget l j := by
  cases e : aget l k with
  | none =>
    rw [aput_new e]
    induction l with
    | nil => rw [List.nil_append, aget_cons]
    | cons p r ih =>
      rw [aget_cons] at e
      by_cases h : p.1 = k
      · rw [if_pos h] at e; cases e
      · rw [if_neg h] at e
        rw [List.cons_append, aget_cons, aget_cons, ih e]
        by_cases z : p.1 = j
        · rw [if_pos z, if_pos z, if_neg (fun y => h (z.trans y.symm))]
        · rw [if_neg z, if_neg z]
  | some u =>
    rw [aput_old e]
    induction l generalizing u with
    | nil => cases e
    | cons p r ih =>
      rw [aget_cons] at e
      rw [List.map_cons, aget_cons, aget_cons]
      by_cases h : p.1 = k
      · have e1 : (if p.1 = k then (p.1, v) else p) = (p.1, v) := if_pos h
        rw [e1]
        show (if p.1 = j then some v else _) = _
        by_cases z : p.1 = j
        · rw [if_pos z, if_pos (h.symm.trans z)]
        · rw [if_neg z, if_neg z, if_neg (fun y => z (h.trans y))]
          cases e2 : aget r k with
          | none =>
            have : r.map (fun p => if p.1 = k then (p.1, v) else p) = r := by
              conv => rhs; rw [← List.map_id r]
              refine List.map_congr_left fun q hq => ?_
              have : ¬ q.1 = k := fun y => aget_none.mp e2 (List.mem_map.mpr ⟨q, hq, y⟩)
              rw [if_neg this]; rfl
            rw [this]
          | some u2 =>
            rw [ih u2 e2, if_neg (fun y => z (h.trans y))]
      · rw [if_neg h] at e
        rw [if_neg h, ih u e]
        by_cases z : p.1 = j
        · rw [if_pos z, if_pos z, if_neg (fun y => h (z.trans y.symm))]
        · rw [if_neg z, if_neg z]
theorem aget_adrop {l : List (κ × α)} {k j : κ} : aget (adrop l k) j = if k = j then none else aget l j := by
  induction l with
  | nil => rw [show adrop ([] : List (κ × α)) k = [] from rfl, aget_nil]; simp
  | cons p r ih =>
    unfold adrop at ih ⊢
    rw [List.filter_cons]
    by_cases h : p.1 = k
    · rw [if_neg (by simp [h]), ih, aget_cons]
      by_cases z : k = j
      · rw [if_pos z, if_pos z]
      · rw [if_neg z, if_neg z, if_neg (fun y => z (h.symm.trans y))]
    · rw [if_pos (by simp [h]), aget_cons, ih, aget_cons]
      by_cases z : p.1 = j
      · rw [if_pos z, if_pos z, if_neg (fun y => h (z.trans y.symm))]
      · rw [if_neg z, if_neg z]
theorem nodup_adrop {l : List (κ × α)} {k : κ} (h : (l.map (·.1)).Nodup) : ((adrop l k).map (·.1)).Nodup := h.sublist (List.Sublist.map _ List.filter_sublist)
theorem length_adrop {l : List (κ × α)} {k : κ} : (adrop l k).length ≤ l.length := List.length_filter_le _ _
theorem mem_adrop {l : List (κ × α)} {k : κ} {p : κ × α} : p ∈ adrop l k ↔ p ∈ l ∧ p.1 ≠ k := by
  unfold adrop
  rw [List.mem_filter, decide_eq_true_eq]
theorem mem_keys_adrop {l : List (κ × α)} {k j : κ} : j ∈ (adrop l k).map (·.1) ↔ j ∈ l.map (·.1) ∧ j ≠ k := by
  constructor
  · intro h
    obtain ⟨p, m, e⟩ := List.mem_map.mp h
    obtain ⟨m1, m2⟩ := mem_adrop.mp m
    exact ⟨List.mem_map.mpr ⟨p, m1, e⟩, e ▸ m2⟩
  · rintro ⟨h, n⟩
    obtain ⟨p, m, e⟩ := List.mem_map.mp h
    exact List.mem_map.mpr ⟨p, mem_adrop.mpr ⟨m, e ▸ n⟩, e⟩
theorem mem_aput {l : List (κ × α)} {k : κ} {v : α} {p : κ × α} (h : p ∈ aput l k v) : p = (k, v) ∨ (p ∈ l ∧ p.1 ≠ k) := by
  cases e : aget l k with
  | none =>
    rw [aput_new e] at h
    rcases List.mem_append.mp h with m | m
    · exact .inr ⟨m, fun z => aget_none.mp e (List.mem_map.mpr ⟨p, m, z⟩)⟩
    · exact .inl (List.mem_singleton.mp m)
  | some u =>
    rw [aput_old e] at h
    obtain ⟨q, m, z⟩ := List.mem_map.mp h
    by_cases y : q.1 = k
    · rw [if_pos y] at z
      exact .inl (by rw [← z, y])
    · rw [if_neg y] at z
      subst z
      exact .inr ⟨m, y⟩
end

/-! ### tables of a dict -/
section
variable {α : Type}
/-- keys are ints -/
def ik (W : Int → α → V) (l : List (Int × α)) : List (Key × V) := l.map fun p => (Sum.inl p.1, W p.1 p.2)
/-- keys are texts -/
def sk (W : Str → α → V) (l : List (Str × α)) : List (Key × V) := l.map fun p => (Sum.inr p.1, W p.1 p.2)
theorem ik_len {W : Int → α → V} {l : List (Int × α)} : (ik W l).length = l.length := List.length_map ..
theorem sk_len {W : Str → α → V} {l : List (Str × α)} : (sk W l).length = l.length := List.length_map ..
theorem valV_ik {W : Int → α → V} {l : List (Int × α)} {k : Int} : valV (ik W l) (Sum.inl k : Key) = (aget l k).map (W k) := by
  induction l with
  | nil => rfl
  | cons p r ih =>
    rw [aget_cons]
    by_cases h : p.1 = k
    · rw [if_pos h]
      show valV ((Sum.inl p.1, W p.1 p.2) :: ik W r) _ = _
      rw [valV_pos (by show (Sum.inl p.1 : Key) = _; rw [h]), h]
      rfl
    · rw [if_neg h]
      show valV ((Sum.inl p.1, W p.1 p.2) :: ik W r) _ = _
      rw [valV_neg (fun z => h (Sum.inl.inj z)), ih]
theorem valV_sk {W : Str → α → V} {l : List (Str × α)} {k : Str} : valV (sk W l) (Sum.inr k : Key) = (aget l k).map (W k) := by
  induction l with
  | nil => rfl
  | cons p r ih =>
    rw [aget_cons]
    by_cases h : p.1 = k
    · rw [if_pos h]
      show valV ((Sum.inr p.1, W p.1 p.2) :: sk W r) _ = _
      rw [valV_pos (by show (Sum.inr p.1 : Key) = _; rw [h]), h]
      rfl
    · rw [if_neg h]
      show valV ((Sum.inr p.1, W p.1 p.2) :: sk W r) _ = _
      rw [valV_neg (fun z => h (Sum.inr.inj z)), ih]
theorem ik_ext {W W' : Int → α → V} {l : List (Int × α)} (h : ∀ p ∈ l, W p.1 p.2 = W' p.1 p.2) : ik W l = ik W' l := List.map_congr_left fun p m => by rw [h p m]
theorem sk_ext {W W' : Str → α → V} {l : List (Str × α)} (h : ∀ p ∈ l, W p.1 p.2 = W' p.1 p.2) : sk W l = sk W' l := List.map_congr_left fun p m => by rw [h p m]
theorem putK_ik {W W' : Int → α → V} {l : List (Int × α)} {k : Int} {v : α} {x : V} (e : W' k v = x) (h : ∀ p ∈ l, p.1 ≠ k → W p.1 p.2 = W' p.1 p.2) : putK (ik W l) (Sum.inl k) x = ik W' (aput l k v) := by
  unfold putK
  have a : ((ik W l).any fun kv => decide (kv.1 = (Sum.inl k : Key))) = (l.any fun p => decide (p.1 = k)) := by
    unfold ik
    rw [List.any_map]
    congr 1
    funext p
    show decide ((Sum.inl p.1 : Key) = Sum.inl k) = _
    by_cases z : p.1 = k
    · simp [z]
    · rw [decide_eq_false (fun y => z (Sum.inl.inj y)), decide_eq_false z]
  rw [a]
  unfold aput
  split
  · rename_i hh
    unfold ik
    rw [List.map_map, List.map_map]
    refine List.map_congr_left fun p m => ?_
    show (if (Sum.inl p.1 : Key) = Sum.inl k then _ else _) = _
    by_cases z : p.1 = k
    · rw [if_pos (by rw [z])]
      show _ = (Sum.inl (if p.1 = k then (p.1, v) else p).1, W' (if p.1 = k then (p.1, v) else p).1 (if p.1 = k then (p.1, v) else p).2)
      rw [if_pos z, ← e, ← z]
    · rw [if_neg (fun y => z (Sum.inl.inj y))]
      show _ = (Sum.inl (if p.1 = k then (p.1, v) else p).1, W' (if p.1 = k then (p.1, v) else p).1 (if p.1 = k then (p.1, v) else p).2)
      rw [if_neg z]
      show (Sum.inl p.1, W p.1 p.2) = (Sum.inl p.1, W' p.1 p.2)
      rw [h p m z]
  · rename_i hh
    have hn : ∀ p ∈ l, p.1 ≠ k := fun p m z => hh (List.any_eq_true.mpr ⟨p, m, by simp [z]⟩)
    unfold ik
    rw [List.map_append]
    show _ = _ ++ [(Sum.inl k, W' k v)]
    rw [e]
    congr 1
    exact List.map_congr_left fun p m => by rw [h p m (hn p m)]
theorem putK_sk {W W' : Str → α → V} {l : List (Str × α)} {k : Str} {v : α} {x : V} (e : W' k v = x) (h : ∀ p ∈ l, p.1 ≠ k → W p.1 p.2 = W' p.1 p.2) : putK (sk W l) (Sum.inr k) x = sk W' (aput l k v) := by
  unfold putK
  have a : ((sk W l).any fun kv => decide (kv.1 = (Sum.inr k : Key))) = (l.any fun p => decide (p.1 = k)) := by
    unfold sk
    rw [List.any_map]
    congr 1
    funext p
    show decide ((Sum.inr p.1 : Key) = Sum.inr k) = _
    by_cases z : p.1 = k
    · simp [z]
    · rw [decide_eq_false (fun y => z (Sum.inr.inj y)), decide_eq_false z]
  rw [a]
  unfold aput
  split
  · rename_i hh
    unfold sk
    rw [List.map_map, List.map_map]
    refine List.map_congr_left fun p m => ?_
    show (if (Sum.inr p.1 : Key) = Sum.inr k then _ else _) = _
    by_cases z : p.1 = k
    · rw [if_pos (by rw [z])]
      show _ = (Sum.inr (if p.1 = k then (p.1, v) else p).1, W' (if p.1 = k then (p.1, v) else p).1 (if p.1 = k then (p.1, v) else p).2)
      rw [if_pos z, ← e, ← z]
    · rw [if_neg (fun y => z (Sum.inr.inj y))]
      show _ = (Sum.inr (if p.1 = k then (p.1, v) else p).1, W' (if p.1 = k then (p.1, v) else p).1 (if p.1 = k then (p.1, v) else p).2)
      rw [if_neg z]
      show (Sum.inr p.1, W p.1 p.2) = (Sum.inr p.1, W' p.1 p.2)
      rw [h p m z]
  · rename_i hh
    have hn : ∀ p ∈ l, p.1 ≠ k := fun p m z => hh (List.any_eq_true.mpr ⟨p, m, by simp [z]⟩)
    unfold sk
    rw [List.map_append]
    show _ = _ ++ [(Sum.inr k, W' k v)]
    rw [e]
    congr 1
    exact List.map_congr_left fun p m => by rw [h p m (hn p m)]
theorem dropK_ik {W : Int → α → V} {l : List (Int × α)} {k : Int} : dropK (ik W l) (Sum.inl k : Key) = ik W (adrop l k) := by
  unfold dropK ik adrop
  rw [List.filter_map]
  congr 1
  refine List.filter_congr fun p _ => ?_
  show decide ((Sum.inl p.1 : Key) ≠ Sum.inl k) = _
  simp
theorem dropK_sk {W : Str → α → V} {l : List (Str × α)} {k : Str} : dropK (sk W l) (Sum.inr k : Key) = sk W (adrop l k) := by
  unfold dropK sk adrop
  rw [List.filter_map]
  congr 1
  refine List.filter_congr fun p _ => ?_
  show decide ((Sum.inr p.1 : Key) ≠ Sum.inr k) = _
  simp
theorem ik_get {W : Int → α → V} {l : List (Int × α)} {i : Nat} {k : Key} {v : V} (h : (ik W l)[i]? = some (k, v)) : ∃ p, l[i]? = some p ∧ k = Sum.inl p.1 ∧ v = W p.1 p.2 := by
  unfold ik at h
  rw [List.getElem?_map] at h
  cases e : l[i]? with
  | none => rw [e] at h; cases h
  | some p => rw [e] at h; cases h; exact ⟨p, rfl, rfl, rfl⟩
theorem sk_get {W : Str → α → V} {l : List (Str × α)} {i : Nat} {k : Key} {v : V} (h : (sk W l)[i]? = some (k, v)) : ∃ p, l[i]? = some p ∧ k = Sum.inr p.1 ∧ v = W p.1 p.2 := by
  unfold sk at h
  rw [List.getElem?_map] at h
  cases e : l[i]? with
  | none => rw [e] at h; cases h
  | some p => rw [e] at h; cases h; exact ⟨p, rfl, rfl, rfl⟩
end
/-- values are ints -/
abbrev iv : Int → Int → V := fun _ v => .int v
theorem putK_iv {l : List (Int × Int)} {k v : Int} : putK (ik iv l) (Sum.inl k : Key) (.int v) = ik iv (aput l k v) := putK_ik rfl fun _ _ _ => rfl
theorem valV_iv {l : List (Int × Int)} {k v : Int} (h : aget l k = some v) : valV (ik iv l) (Sum.inl k : Key) = some (.int v) := by rw [valV_ik, h]; rfl
theorem take_succ {α : Type} {l : List α} {i : Nat} {x : α} (h : l[i]? = some x) : l.take (i + 1) = l.take i ++ [x] := by
  rw [List.take_succ, h]
  rfl

/-! ### two sorted lists with the same items are one -/
theorem perm_sorted_eq {α : Type} {le : α → α → Prop} (anti : ∀ a b, le a b → le b a → a = b) : ∀ {l m : List α}, l.Perm m → l.Pairwise le → m.Pairwise le → l = m
  | [], m, p, _, _ => (List.nil_perm.mp p).symm
  | a :: l, [], p, _, _ => absurd (List.perm_nil.mp p) (by simp)
  | a :: l, b :: m, p, h1, h2 => by
    have e : a = b := by
      have m1 : a ∈ b :: m := p.mem_iff.mp List.mem_cons_self
      have m2 : b ∈ a :: l := p.mem_iff.mpr List.mem_cons_self
      rcases List.mem_cons.mp m1 with z | z
      · exact z
      · rcases List.mem_cons.mp m2 with y | y
        · exact y.symm
        · exact anti a b ((List.pairwise_cons.mp h1).1 b y) ((List.pairwise_cons.mp h2).1 a z)
    subst e
    rw [perm_sorted_eq anti (List.perm_cons a |>.mp p) (List.pairwise_cons.mp h1).2 (List.pairwise_cons.mp h2).2]
/-- pairs of ints by Python's order -/
def pLe (a b : Int × Int) : Prop := a.1 < b.1 ∨ (a.1 = b.1 ∧ a.2 ≤ b.2)
instance (a b : Int × Int) : Decidable (pLe a b) := inferInstanceAs (Decidable (_ ∨ _))
theorem pLe_anti (a b : Int × Int) (h : pLe a b) (h' : pLe b a) : a = b := by
  obtain ⟨x, y⟩ := a
  obtain ⟨z, w⟩ := b
  unfold pLe at h h'
  simp only at h h'
  have e1 : x = z := by omega
  have e2 : y = w := by omega
  rw [e1, e2]
def sortP (l : List (Int × Int)) : List (Int × Int) := l.mergeSort fun a b => decide (pLe a b)
theorem sortP_perm (l : List (Int × Int)) : (sortP l).Perm l := List.mergeSort_perm _ _
theorem sortP_sorted (l : List (Int × Int)) : (sortP l).Pairwise pLe := by
  have h := List.pairwise_mergeSort (le := fun a b => decide (pLe a b)) (fun a b c h1 h2 => ?_) (fun a b => ?_) l
  · exact h.imp fun {a b} e => of_decide_eq_true e
  · have a1 := of_decide_eq_true h1
    have a2 := of_decide_eq_true h2
    refine decide_eq_true ?_
    unfold pLe at *
    omega
  · rw [Bool.or_eq_true, decide_eq_true_eq, decide_eq_true_eq]
    unfold pLe
    omega
theorem sortP_unique {l m : List (Int × Int)} (p : m.Perm l) (h : m.Pairwise pLe) : m = sortP l :=
  perm_sorted_eq pLe_anti (p.trans (sortP_perm l).symm) h (sortP_sorted l)
end LW

set_option maxHeartbeats 4000000
namespace LW
open PySem PySem.Spec PyProof.Rows L2
/-! ### what a value holds, by tuples -/
section
variable {α : Type}
/-- y is a tuple that holds f x -/
def IsT (f : α → List V) (H : Hp) (y : V) (x : α) : Prop := ∃ t, y = .ref t ∧ H t = some (.tup (f x))
theorem IsT.keep {f : α → List V} {H H' : Hp} {y : V} {x : α} (k : TupK H H') (h : IsT f H y x) : IsT f H' y x := let ⟨t, e, a⟩ := h; ⟨t, e, k _ _ a⟩
theorem keepT {f : α → List V} {H H' : Hp} {ys : List V} {xs : List α} (k : TupK H H') (h : Paired (IsT f H) ys xs) : Paired (IsT f H') ys xs := h.mono fun _ _ => IsT.keep k
theorem snocT {f : α → List V} {H : Hp} {ys : List V} {xs : List α} {y : V} {x : α} (h : Paired (IsT f H) ys xs) (hy : IsT f H y x) : Paired (IsT f H) (ys ++ [y]) (xs ++ [x]) := Paired.snoc h hy
theorem getT {f : α → List V} {H : Hp} : ∀ {ys : List V} {xs : List α} {i : Nat} {y : V}, Paired (IsT f H) ys xs → ys[i]? = some y → ∃ x, xs[i]? = some x ∧ IsT f H y x
  | _, _, _, _, .nil, e => by simp at e
  | _, _, 0, _, .cons a _, e => by simp at e; subst e; exact ⟨_, rfl, a⟩
  | _, _, i + 1, y, .cons a t, e => by
    obtain ⟨x, h1, h2⟩ := getT (i := i) (y := y) t (by simpa using e)
    exact ⟨x, by simpa using h1, h2⟩
theorem appT {f : α → List V} {H : Hp} : ∀ {ys zs : List V} {xs ws : List α}, Paired (IsT f H) ys xs → Paired (IsT f H) zs ws → Paired (IsT f H) (ys ++ zs) (xs ++ ws)
  | _, _, _, _, .nil, h => h
  | _, _, _, _, .cons a t, h => .cons a (appT t h)
theorem takeT {f : α → List V} {H : Hp} : ∀ {ys : List V} {xs : List α} (n : Nat), Paired (IsT f H) ys xs → Paired (IsT f H) (ys.take n) (xs.take n)
  | _, _, 0, _ => .nil
  | _, _, n + 1, .nil => .nil
  | _, _, n + 1, .cons a t => .cons a (takeT n t)
theorem dropT {f : α → List V} {H : Hp} : ∀ {ys : List V} {xs : List α} (n : Nat), Paired (IsT f H) ys xs → Paired (IsT f H) (ys.drop n) (xs.drop n)
  | _, _, 0, h => h
  | _, _, n + 1, .nil => .nil
  | _, _, n + 1, .cons a t => dropT n t
end
/-- a pair of ints -/
abbrev fP (p : Int × Int) : List V := [.int p.1, .int p.2]
abbrev IsP : Hp → V → Int × Int → Prop := IsT fP
theorem keepP {H H' : Hp} {ys : List V} {ps : List (Int × Int)} (k : TupK H H') (h : Paired (IsP H) ys ps) : Paired (IsP H') ys ps := keepT k h
def pairOf (H : Hp) : V → Int × Int
  | .ref t => match H t with
    | some (.tup [.int i, .int j]) => (i, j)
    | _ => (0, 0)
  | _ => (0, 0)
theorem isP_of {H : Hp} {y : V} {p : Int × Int} (h : IsP H y p) : pairOf H y = p := by
  obtain ⟨t, rfl, e⟩ := h
  show (match H t with
    | some (.tup [.int i, .int j]) => (i, j)
    | _ => (0, 0)) = p
  rw [e]
theorem pmapOf {H : Hp} {xs : List V} {ds : List (Int × Int)} (h : Paired (IsP H) xs ds) : xs.map (pairOf H) = ds := by
  induction h with
  | nil => rfl
  | cons a _ ih => rw [List.map_cons, isP_of a, ih]
theorem pall {α β : Type} {F : α → β → Prop} {xs : List α} {ys : List β} (h : Paired F xs ys) : ∀ x ∈ xs, ∃ y, F x y := by
  induction h with
  | nil => intro x m; cases m
  | cons a _ ih =>
    intro x m
    rcases List.mem_cons.mp m with e | e
    · exact ⟨_, e ▸ a⟩
    · exact ih x e
theorem paired_map {H : Hp} : ∀ {ys : List V}, (∀ y ∈ ys, ∃ p, IsP H y p) → Paired (IsP H) ys (ys.map (pairOf H))
  | [], _ => .nil
  | y :: ys, h => by
    obtain ⟨p, hp⟩ := h y List.mem_cons_self
    refine .cons ?_ (paired_map fun z m => h z (List.mem_cons_of_mem _ m))
    rw [isP_of hp]
    exact hp
section
variable {K : PySem.W.Frag} {H : Hp} {Q : VK}
theorem l_sortedP {F : List Addr} {H0 : Hp} {a : Addr} {xs : List V} {ds : List (Int × Int)} (r : Run F H0 H) (h : H a = some (.lst xs)) (hx : Paired (IsP H) xs ds)
    (q : ∀ p H' ys, H0 p = none → p ∉ F → H p = none → Run F H0 H' → H' p = some (.lst ys) → Same H H' → Paired (IsP H') ys (sortP ds) → Q (.ref p) H') : rSortedPO K [.ref a] H Q := by
  refine ⟨a, xs, pairOf H, rfl, SqL.of h, fun x m => ?_, fun ys p h1 h2 hp => ?_⟩
  · obtain ⟨d, t, e, z⟩ := pall hx x m
    refine ⟨t, e, ?_⟩
    rw [e, isP_of (p := d) ⟨t, rfl, z⟩]
    exact z
  · obtain ⟨r1, r2, r3⟩ := r.new (o := .lst ys) hp
    have sm : Same H (upd H p (.lst ys)) := fun a u e => by rw [upd_ne (ne_of_none e hp)]; exact e
    refine q p _ ys r2 r3 hp r1 upd_same sm ?_
    have al : ∀ y ∈ ys, ∃ d, IsP H y d := fun y m => pall hx y (h2.perm.mem_iff.mp m)
    have e : ys.map (pairOf H) = sortP ds := by
      refine sortP_unique ?_ ?_
      · rw [← pmapOf hx]
        exact h2.perm.map _
      · refine List.pairwise_map.mpr (List.Pairwise.imp (fun {x y} hxy => ?_) h1)
        have z : ¬ ((pairOf H y).1 < (pairOf H x).1 ∨ ((pairOf H y).1 = (pairOf H x).1 ∧ (pairOf H y).2 < (pairOf H x).2)) := fun w => Bool.false_ne_true (hxy.symm.trans (SrtO.lexB_iff.mpr w))
        unfold pLe
        omega
    rw [← e]
    exact keepP (fun a u => sm a _) (paired_map al)
end
end LW
namespace LW
open PySem PySem.Spec PyProof.Rows L2
section
variable {K : PySem.W.Frag} {σ : St} {H : Hp} {Q : VK} {te td : TE} {tt : TT} {α : Type}
theorem lc_keysI {d : Addr} {W : Int → α → V} {l : List (Int × α)} {j : Nat} (hd : H d = some (.dK (ik W l))) (hz : (ik W l).length < sizeLine)
    (htd : ∀ od (R : VK), R (.ref d) (upd H d (.frz od (.dK (ik W l)))) → td σ (upd H d (.frz od (.dK (ik W l)))) R)
    (P : List (Int × α) → List V → Hp → Prop) (h0 : P [] [] H) (hP : ∀ m acc H1 H2, TupK H1 H2 → P m acc H1 → P m acc H2)
    (hs : ∀ i p od acc H1 (R : VK) (R0 : Hp → Prop), l[i]? = some p → H1 d = some (.frz od (.dK (ik W l))) → (∀ a o, a ≠ d → H a = some o → H1 a = some o) → acc.length ≤ i → P (l.take i) acc H1 →
      (∀ y H4, Ext [] H1 H4 → P (l.take i ++ [p]) (acc ++ [y]) H4 → R y H4) → (∀ H3, Ext [] H1 H3 → P (l.take i ++ [p]) acc H3 → R0 H3) →
      tt (σ.set j (some (.int p.1))) H1 fun b H3 => if b = true then te (σ.set j (some (.int p.1))) H3 R else R0 H3)
    (q : ∀ D H' acc, H D = none → Ext [] H H' → H' D = some (.lst acc) → acc.length ≤ l.length → P l acc H' → Q (.ref D) H') :
    tLockE (tLc (iKeys td) (gName j) tt te [j]) σ H Q := by
  refine lc_keys hd hz htd (fun i acc H' => P (l.take i) acc H') h0 (fun i => hP _) (fun i k v od acc H1 R R0 ek hf hk hl hp q1 q0 => ?_) (fun D H' acc nD e hD lD hp => ?_)
  · obtain ⟨p, el, rfl, rfl⟩ := ik_get ek
    have e1 := take_succ el
    exact hs i p od acc H1 R R0 el hf hk hl hp (fun y H4 e4 p4 => q1 y H4 e4 (by rw [e1]; exact p4)) fun H3 e3 p3 => q0 H3 e3 (by rw [e1]; exact p3)
  · rw [ik_len] at lD hp
    rw [List.take_length] at hp
    exact q D H' acc nD e hD lD hp
theorem lc_keysS {d : Addr} {W : Str → α → V} {l : List (Str × α)} {j : Nat} (hd : H d = some (.dK (sk W l))) (hz : (sk W l).length < sizeLine)
    (htd : ∀ od (R : VK), R (.ref d) (upd H d (.frz od (.dK (sk W l)))) → td σ (upd H d (.frz od (.dK (sk W l)))) R)
    (P : List (Str × α) → List V → Hp → Prop) (h0 : P [] [] H) (hP : ∀ m acc H1 H2, TupK H1 H2 → P m acc H1 → P m acc H2)
    (hs : ∀ i p od acc H1 (R : VK) (R0 : Hp → Prop), l[i]? = some p → H1 d = some (.frz od (.dK (sk W l))) → (∀ a o, a ≠ d → H a = some o → H1 a = some o) → acc.length ≤ i → P (l.take i) acc H1 →
      (∀ y H4, Ext [] H1 H4 → P (l.take i ++ [p]) (acc ++ [y]) H4 → R y H4) → (∀ H3, Ext [] H1 H3 → P (l.take i ++ [p]) acc H3 → R0 H3) →
      tt (σ.set j (some (.str p.1))) H1 fun b H3 => if b = true then te (σ.set j (some (.str p.1))) H3 R else R0 H3)
    (q : ∀ D H' acc, H D = none → Ext [] H H' → H' D = some (.lst acc) → acc.length ≤ l.length → P l acc H' → Q (.ref D) H') :
    tLockE (tLc (iKeys td) (gName j) tt te [j]) σ H Q := by
  refine lc_keys hd hz htd (fun i acc H' => P (l.take i) acc H') h0 (fun i => hP _) (fun i k v od acc H1 R R0 ek hf hk hl hp q1 q0 => ?_) (fun D H' acc nD e hD lD hp => ?_)
  · obtain ⟨p, el, rfl, rfl⟩ := sk_get ek
    have e1 := take_succ el
    exact hs i p od acc H1 R R0 el hf hk hl hp (fun y H4 e4 p4 => q1 y H4 e4 (by rw [e1]; exact p4)) fun H3 e3 p3 => q0 H3 e3 (by rw [e1]; exact p3)
  · rw [sk_len] at lD hp
    rw [List.take_length] at hp
    exact q D H' acc nD e hD lD hp
end
theorem pmapP {H : Hp} {acc : List V} {m : List (Int × Int)} {p : Int × Int} {y : V} (h : Paired (IsP H) acc m) (hy : IsP H y p) : Paired (IsP H) (acc ++ [y]) (m ++ [p]) := Paired.snoc h hy
end LW

set_option maxHeartbeats 4000000
namespace LW
open PySem PySem.Spec PyProof.Rows L2
/-! ### built-ins by names -/
def rLenQ (K : PySem.W.Frag) : List V → Hp → VK → Prop := fun xs H Q => ∃ p ys, xs = [.ref p] ∧ (SqL K H p ys ∨ SqT K H p ys) ∧ Q (.int ys.length) H
def rLenX : List V → Hp → VK → Prop := fun xs H Q => ∃ z, xs = [.str z] ∧ z.length ≤ sizeLine ∧ Q (.int z.length) H
def rListQ (K : PySem.W.Frag) : List V → Hp → VK → Prop := fun xs H Q => ∃ p ys, xs = [.ref p] ∧ (SqL K H p ys ∨ SqT K H p ys) ∧ ∀ l, H l = none → Q (.ref l) (upd H l (.lst ys))
section
variable {X : Cx}
theorem oLen : CallR X (.builtin "len") (rLenQ X.K) := call_len_seq
theorem oLenX : CallR X (.builtin "len") rLenX := call_len_str
theorem oList : CallR X (.type "list") (rListQ X.K) := call_list_of
end
/-! ### data -/
/-- what == sees of a plain value -/
def toD : V → PyData
  | .bl b => .bool b
  | .int i => .int i
  | .str x => .str x
  | _ => .none
def plainV : V → Bool
  | .non => true | .bl _ => true | .int _ => true | .str x => PyData.strOk x
  | _ => false
/-- None, a truth value, an int, a text -/
def simpV : V → Bool
  | .non => true | .bl _ => true | .int _ => true | .str _ => true
  | _ => false
section
variable {K : PySem.W.Frag} {H : Hp} {Q : VK} {α : Type} {f : α → List V}
theorem dp_plain {v : V} (h : plainV v = true) : Dp K H v (toD v) := by
  cases v with
  | non => exact .non
  | bl b => exact .bl b
  | int i => exact .int i
  | str x => exact .str x
  | _ => cases h
theorem dp_plains : ∀ {vs : List V}, vs.all plainV = true → DpAll K H vs (vs.map toD)
  | [], _ => .nil
  | v :: vs, h => by
    rw [List.all_cons, Bool.and_eq_true] at h
    exact .cons (dp_plain h.1) (dp_plains h.2)
theorem dp_tup {y : V} {x : α} (hf : (f x).all plainV = true) (h : IsT f H y x) : Dp K H y (.tuple ((f x).map toD)) := by
  obtain ⟨t, rfl, e⟩ := h
  exact .tup (SqT.of e) (dp_plains hf)
theorem dp_tups (hf : ∀ x, (f x).all plainV = true) {ys : List V} {xs : List α} (h : Paired (IsT f H) ys xs) : DpAll K H ys (xs.map fun x => .tuple ((f x).map toD)) := by
  induction h with
  | nil => exact .nil
  | cons a _ ih => exact .cons (dp_tup (hf _) a) ih
theorem lay_plain : ∀ {v : V}, plainV v = true → (toD v).canLay0 = true ∧ (toD v).depth ≤ 1
  | .non, _ => by constructor <;> simp [toD, PyData.canLay0, PyData.depth]
  | .bl _, _ => by constructor <;> simp [toD, PyData.canLay0, PyData.depth]
  | .int _, _ => by constructor <;> simp [toD, PyData.canLay0, PyData.depth]
  | .str x, h => by
    have h' : PyData.strOk x = true := h
    constructor <;> simp [toD, PyData.canLay0, PyData.depth, h']
  | .byt _, h => by cases h
  | .flt _, h => by cases h
  | .ref _, h => by cases h
  | .ty _, h => by cases h
theorem lay_plains : ∀ {vs : List V}, vs.all plainV = true → PyData.canLayAll0 (vs.map toD) = true ∧ PyData.depthAll (vs.map toD) ≤ 1
  | [], _ => by constructor <;> simp [PyData.canLayAll0, PyData.depthAll]
  | v :: vs, h => by
    rw [List.all_cons, Bool.and_eq_true] at h
    obtain ⟨a, b⟩ := lay_plain h.1
    obtain ⟨c, d⟩ := lay_plains h.2
    constructor
    · simp [PyData.canLayAll0, a, c]
    · simp [PyData.depthAll]; omega
theorem lay_tups (hf : ∀ x, (f x).all plainV = true) : ∀ xs : List α, PyData.canLayAll0 (xs.map fun x => .tuple ((f x).map toD)) = true ∧ PyData.depthAll (xs.map fun x => .tuple ((f x).map toD)) ≤ 2
  | [] => by constructor <;> simp [PyData.canLayAll0, PyData.depthAll]
  | x :: xs => by
    obtain ⟨a, b⟩ := lay_plains (hf x)
    obtain ⟨c, d⟩ := lay_tups hf xs
    constructor
    · simp [PyData.canLayAll0, PyData.canLay0, a, c]
    · simp [PyData.depthAll, PyData.depth]; omega
theorem shaped_tups (hf : ∀ x, (f x).all plainV = true) (xs : List α) : SeqAt.shaped (.list (xs.map fun x => .tuple ((f x).map toD))) = true := by
  obtain ⟨a, b⟩ := lay_tups hf xs
  unfold SeqAt.shaped
  rw [Bool.and_eq_true, decide_eq_true_eq]
  constructor
  · simpa [PyData.canLay0] using a
  · simp [PyData.depth]; omega
theorem shaped_plain {v : V} (h : plainV v = true) : SeqAt.shaped (toD v) = true := by
  obtain ⟨a, b⟩ := lay_plain h
  unfold SeqAt.shaped
  rw [Bool.and_eq_true, decide_eq_true_eq]
  exact ⟨a, by omega⟩
theorem shaped_lay {d : PyData} (h : SeqAt.shaped d = true) : d.canLay0 = true := SeqAt.canLay_of_shaped h
/-- two lists of the same tuples are equal -/
theorem l_eqT {a b : Addr} {xs ys : List V} {ds : List α} (hf : ∀ x, (f x).all plainV = true) (ha : SqL K H a xs) (hb : SqL K H b ys) (h1 : Paired (IsT f H) xs ds) (h2 : Paired (IsT f H) ys ds) (q : Q (.bl true) H) :
    rEqD K (.ref a) (.ref b) H Q := ⟨_, _, .lst ha (dp_tups hf h1), .lst hb (dp_tups hf h2), shaped_tups hf ds, shaped_tups hf ds, by rw [SeqAt.eqv_refl _ (shaped_lay (shaped_tups hf ds))]; exact q⟩
theorem eqv_plain : ∀ {x y : V}, plainV x = true → plainV y = true → (∀ b, x ≠ .bl b) → (∀ b, y ≠ .bl b) → PyData.eqv (toD x) (toD y) = decide (x = y)
  | .non, .non, _, _, _, _ => by simp [toD, PyData.eqv]
  | .non, .int _, _, _, _, _ => by simp [toD, PyData.eqv]
  | .non, .str _, _, _, _, _ => by simp [toD, PyData.eqv]
  | .int _, .non, _, _, _, _ => by simp [toD, PyData.eqv]
  | .int i, .int j, _, _, _, _ => by simp [toD, PyData.eqv, Bool.beq_eq_decide_eq]
  | .int _, .str _, _, _, _, _ => by simp [toD, PyData.eqv]
  | .str _, .non, _, _, _, _ => by simp [toD, PyData.eqv]
  | .str _, .int _, _, _, _, _ => by simp [toD, PyData.eqv]
  | .str i, .str j, _, _, _, _ => by simp [toD, PyData.eqv, Bool.beq_eq_decide_eq]
  | .bl b, _, _, _, h, _ => absurd rfl (h b)
  | .non, .bl b, _, _, _, h => absurd rfl (h b)
  | .int _, .bl b, _, _, _, h => absurd rfl (h b)
  | .str _, .bl b, _, _, _, h => absurd rfl (h b)
  | .byt _, _, h, _, _, _ => by cases h
  | .flt _, _, h, _, _, _ => by cases h
  | .ref _, _, h, _, _, _ => by cases h
  | .ty _, _, h, _, _, _ => by cases h
  | .non, .byt _, _, h, _, _ => by cases h
  | .non, .flt _, _, h, _, _ => by cases h
  | .non, .ref _, _, h, _, _ => by cases h
  | .non, .ty _, _, h, _, _ => by cases h
  | .int _, .byt _, _, h, _, _ => by cases h
  | .int _, .flt _, _, h, _, _ => by cases h
  | .int _, .ref _, _, h, _, _ => by cases h
  | .int _, .ty _, _, h, _, _ => by cases h
  | .str _, .byt _, _, h, _, _ => by cases h
  | .str _, .flt _, _, h, _, _ => by cases h
  | .str _, .ref _, _, h, _, _ => by cases h
  | .str _, .ty _, _, h, _, _ => by cases h
/-- two plain values (no truth values) -/
theorem l_eqV {x y : V} (hx : plainV x = true) (hy : plainV y = true) (hb : ∀ b, x ≠ .bl b) (hb2 : ∀ b, y ≠ .bl b) (q : Q (.bl (decide (x = y))) H) : rEqD K x y H Q :=
  ⟨_, _, dp_plain hx, dp_plain hy, shaped_plain hx, shaped_plain hy, by rw [eqv_plain hx hy hb hb2]; exact q⟩
theorem l_neV {x y : V} (hx : plainV x = true) (hy : plainV y = true) (hb : ∀ b, x ≠ .bl b) (hb2 : ∀ b, y ≠ .bl b) (q : Q (.bl (!decide (x = y))) H) : rNeD K x y H Q :=
  ⟨_, _, dp_plain hx, dp_plain hy, shaped_plain hx, shaped_plain hy, by rw [eqv_plain hx hy hb hb2]; exact q⟩
theorem shaped_nil : SeqAt.shaped (.list []) = true := by decide +kernel
theorem eqv_nil (ds : List PyData) : PyData.eqv (.list ds) (.list []) = ds.isEmpty := by
  cases ds <;> simp [PyData.eqv, PyData.eqvAll]
/-- a list of tuples against [] -/
theorem l_neT0 {a b : Addr} {xs : List V} {ds : List α} (hf : ∀ x, (f x).all plainV = true) (ha : SqL K H a xs) (hb : SqL K H b []) (h1 : Paired (IsT f H) xs ds) (q : Q (.bl (!ds.isEmpty)) H) : rNeD K (.ref a) (.ref b) H Q :=
  ⟨_, _, .lst ha (dp_tups hf h1), .lst hb .nil, shaped_tups hf ds, shaped_nil, by rw [eqv_nil]; simpa using q⟩
theorem l_eqT0 {a b : Addr} {xs : List V} {ds : List α} (hf : ∀ x, (f x).all plainV = true) (ha : SqL K H a xs) (hb : SqL K H b []) (h1 : Paired (IsT f H) xs ds) (q : Q (.bl ds.isEmpty) H) : rEqD K (.ref a) (.ref b) H Q :=
  ⟨_, _, .lst ha (dp_tups hf h1), .lst hb .nil, shaped_tups hf ds, shaped_nil, by rw [eqv_nil]; simpa using q⟩
/-- [] against [] -/
theorem l_neN {a b : Addr} (ha : SqL K H a []) (hb : SqL K H b []) (q : Q (.bl false) H) : rNeD K (.ref a) (.ref b) H Q :=
  ⟨_, _, .lst ha .nil, .lst hb .nil, shaped_nil, shaped_nil, by rw [eqv_nil]; exact q⟩
/-- lists of texts -/
theorem l_eqTx {a b : Addr} {xs ys : List Str} (ox : ∀ x ∈ xs, PyData.strOk x = true) (oy : ∀ x ∈ ys, PyData.strOk x = true) (ha : SqL K H a (xs.map V.str)) (hb : SqL K H b (ys.map V.str)) (q : Q (.bl (decide (xs = ys))) H) : rEqD K (.ref a) (.ref b) H Q := by
  have al : ∀ l : List Str, (∀ x ∈ l, PyData.strOk x = true) → (l.map V.str).all plainV = true := fun l h => by
    rw [List.all_eq_true]
    intro v m
    obtain ⟨x, mx, rfl⟩ := List.mem_map.mp m
    exact h x mx
  have sh : ∀ l : List Str, (∀ x ∈ l, PyData.strOk x = true) → SeqAt.shaped (.list ((l.map V.str).map toD)) = true := fun l h => by
    obtain ⟨a, b⟩ := lay_plains (al l h)
    unfold SeqAt.shaped
    rw [Bool.and_eq_true, decide_eq_true_eq]
    constructor
    · simpa [PyData.canLay0] using a
    · simp only [PyData.depth]; omega
  refine ⟨_, _, .lst ha (dp_plains (al xs ox)), .lst hb (dp_plains (al ys oy)), sh xs ox, sh ys oy, ?_⟩
  have e : PyData.eqv (.list ((xs.map V.str).map toD)) (.list ((ys.map V.str).map toD)) = decide (xs = ys) := by
    rw [PyData.eqv]
    clear ha hb q ox oy
    induction xs generalizing ys with
    | nil => cases ys <;> simp [PyData.eqvAll]
    | cons x xs ih =>
      cases ys with
      | nil => simp [PyData.eqvAll]
      | cons y ys =>
        simp only [List.map_cons, PyData.eqvAll, toD, PyData.eqv] at ih ⊢
        rw [ih]
        by_cases h1 : x = y <;> by_cases h2 : xs = ys <;> simp [h1, h2]
  rw [e]
  exact q

/-! ### isinstance -/
def isI : V → Bool
  | .int _ => true
  | _ => false
def isS : V → Bool
  | .str _ => true
  | _ => false
def isB : V → Bool
  | .bl _ => true
  | _ => false
theorem l_isiI {v : V} (h : simpV v = true) (q : Q (.bl (isI v || isB v)) H) : rIsi K [v, .ty "int"] H Q := by
  cases v with
  | non => exact ⟨_, _, _, _, false, rfl, .ty _, .base .non, kit_ty (by decide +kernel), q⟩
  | bl b => exact ⟨_, _, _, _, true, rfl, .ty _, .base (.bl b), kit_ty (by decide +kernel), q⟩
  | int i => exact ⟨_, _, _, _, true, rfl, .ty _, .base (.int i), kit_ty (by decide +kernel), q⟩
  | str x => exact ⟨_, _, _, _, false, rfl, .ty _, .base (.str x), kit_ty (by decide +kernel), q⟩
  | _ => cases h
theorem l_isiB {v : V} (h : simpV v = true) (q : Q (.bl (isB v)) H) : rIsi K [v, .ty "bool"] H Q := by
  cases v with
  | non => exact ⟨_, _, _, _, false, rfl, .ty _, .base .non, kit_ty (by decide +kernel), q⟩
  | bl b => exact ⟨_, _, _, _, true, rfl, .ty _, .base (.bl b), kit_ty (by decide +kernel), q⟩
  | int i => exact ⟨_, _, _, _, false, rfl, .ty _, .base (.int i), kit_ty (by decide +kernel), q⟩
  | str x => exact ⟨_, _, _, _, false, rfl, .ty _, .base (.str x), kit_ty (by decide +kernel), q⟩
  | _ => cases h
theorem l_isiS {v : V} (h : simpV v = true) (q : Q (.bl (isS v)) H) : rIsi K [v, .ty "str"] H Q := by
  cases v with
  | non => exact ⟨_, _, _, _, false, rfl, .ty _, .base .non, kit_ty (by decide +kernel), q⟩
  | bl b => exact ⟨_, _, _, _, false, rfl, .ty _, .base (.bl b), kit_ty (by decide +kernel), q⟩
  | int i => exact ⟨_, _, _, _, false, rfl, .ty _, .base (.int i), kit_ty (by decide +kernel), q⟩
  | str x => exact ⟨_, _, _, _, true, rfl, .ty _, .base (.str x), kit_ty (by decide +kernel), q⟩
  | _ => cases h
theorem l_isiL {a : Addr} {xs : List V} (h : H a = some (.lst xs)) (q : Q (.bl true) H) : rIsi K [.ref a, .ty "list"] H Q := ⟨_, _, _, _, true, rfl, .ty _, .base (.lst h), kit_ty (by decide +kernel), q⟩
theorem l_isiT {a : Addr} {xs : List V} (h : H a = some (.tup xs)) (q : Q (.bl true) H) : rIsi K [.ref a, .ty "tuple"] H Q := ⟨_, _, _, _, true, rfl, .ty _, .base (.tup h), kit_ty (by decide +kernel), q⟩

/-! ### displays of dicts -/
def LDisp (p : Addr) (ps : List (V × V)) (H : Hp) (Q : VK) : Prop := H p = some (.dK []) ∧ ∃ kvs : List (Key × V), ps = kvs.map (fun kv => (kV kv.1, kv.2)) ∧ kvs.length ≤ 15 ∧ Q (.ref p) (upd H p (.dK (mergeK [] kvs)))
variable {σ : St} {trs : List (TE × TE)} {tk tv : TE} {R : List (V × V) → Hp → Prop}
theorem k_disp {F : List Addr} {H0 : Hp} (r : Run F H0 H) (q : ∀ p H', H0 p = none → p ∉ F → H p = none → Run F H0 H' → H' p = some (.dK []) → Same H H' → tPairs trs σ H' fun ps H2 => LDisp p ps H2 Q) :
    tDisp trs σ H Q := fun p hp =>
  let ⟨r1, r2, r3⟩ := r.new hp
  q p _ r2 r3 hp r1 upd_same (fun a u e => by rw [upd_ne (ne_of_none e hp)]; exact e)
theorem k_pnil (q : R [] H) : tPairs [] σ H R := q
theorem k_pcons (q : tk σ H fun x H1 => tv σ H1 fun y H2 => tPairs trs σ H2 fun ps H3 => R ((x, y) :: ps) H3) : tPairs ((tk, tv) :: trs) σ H R := q
def keyOf : V × V → Key × V
  | (.str s, v) => (.inr s, v)
  | (.int i, v) => (.inl i, v)
  | (_, v) => (.inl 0, v)
theorem l_disp {F : List Addr} {H0 : Hp} {p : Addr} {ps : List (V × V)} {kvs : List (Key × V)} (r : Run F H0 H) (h : H p = some (.dK [])) (e : ps = (ps.map keyOf).map (fun kv => (kV kv.1, kv.2))) (z : (ps.map keyOf).length ≤ 15) (e2 : mergeK [] (ps.map keyOf) = kvs) (w : p ∈ F ∨ H0 p = none)
    (q : ∀ H', Run F H0 H' → H' p = some (.dK kvs) → (∀ b, b ≠ p → H' b = H b) → Q (.ref p) H') : LDisp p ps H Q :=
  ⟨h, _, e, z, by rw [e2]; exact q _ (r.wr h (by intro _ z; cases z) w) upd_same fun b n => upd_ne n⟩
-- len, list methods
theorem l_lenL {a : Addr} {xs : List V} (h : SqL K H a xs) (q : Q (.int xs.length) H) : rLenQ K [.ref a] H Q := ⟨a, _, rfl, .inl h, q⟩
theorem l_lenT {a : Addr} {xs : List V} (h : SqT K H a xs) (q : Q (.int xs.length) H) : rLenQ K [.ref a] H Q := ⟨a, _, rfl, .inr h, q⟩
theorem l_lenX {z : Str} (h : z.length ≤ sizeLine) (q : Q (.int z.length) H) : rLenX [.str z] H Q := ⟨z, rfl, h, q⟩
theorem l_listL {a : Addr} {xs : List V} (h : SqL K H a xs) (q : LNew (.lst xs) H Q) : rListQ K [.ref a] H Q := ⟨a, _, rfl, .inl h, q⟩
theorem l_listT {a : Addr} {xs : List V} (h : SqT K H a xs) (q : LNew (.lst xs) H Q) : rListQ K [.ref a] H Q := ⟨a, _, rfl, .inr h, q⟩
end

/-! ### the end -/
theorem fn_out {P : Program} {w : World} {K : PySem.W.Frag} {mg : Str → Option Value} {base : Heap} {k : Nat} {f : Addr} {fd : FuncData} {ps : List Str} {sp : Sp} (F : FnOk P w K mg base (L2N.CX P w) k f fd ps sp)
    (h : ∀ vs H Q E, sp vs H Q E → sp vs H Q fun _ _ _ => False) : FnOk P w K mg base CX0 k f fd ps sp := by
  refine ⟨F.len, fun A outer s H args us vs Q E hr e0 hb r hs => ?_⟩
  refine codeAny_mono (F.run A outer s H args us vs Q (fun _ _ _ => False) hr e0 hb r (h _ _ _ _ hs)) fun res s' hq => ?_
  match res, hq with
  | .error e, hq =>
    obtain ⟨_, _, _, _, _, _, _, _, _, _, _, _, z⟩ := hq
    exact z.elim
  | .ok v, hq => cases v <;> exact hq
end LW
namespace LW
open PySem PySem.Spec PyProof.Rows L2
/-! ### items by their places -/
theorem atI_of {α : Type} {xs : List α} {n : Int} {v : α} (h : 0 ≤ n) (e : xs[n.toNat]? = some v) : atI xs n = some v := by
  obtain ⟨m, rfl⟩ := Int.eq_ofNat_of_zero_le h
  have hm : m < xs.length := by
    rcases Nat.lt_or_ge m xs.length with z | z
    · exact z
    · rw [show ((m : Int)).toNat = m from rfl, List.getElem?_eq_none z] at e
      cases e
  unfold atI ixN
  rw [if_pos h, if_pos (by omega)]
  exact e
theorem atI_map {α : Type} {f : α → V} {xs : List α} {n : Int} {d : α} (h : 0 ≤ n) (l : n < xs.length) : atI (xs.map f) n = some (f (xs.getD n.toNat d)) := by
  refine atI_of h ?_
  have hm : n.toNat < xs.length := by omega
  rw [List.getElem?_map, List.getD_eq_getElem?_getD, List.getElem?_eq_getElem hm]
  rfl
end LW

set_option maxHeartbeats 4000000
namespace LW
open PySem PySem.Spec PyProof.Rows L2
/-! ### the suite that tells a refusal by its class's word -/
theorem l_catch {K : PySem.W.Frag} {iw ie : Nat} {words : List Str} {D0 : Str} {spo : SpE} {a : Addr} {c : Value} {d : Option Addr} {as : TA} {nx bk ct : St → Hp → Prop} {rt : VK} {σ : St} {H : Hp}
    (hm : D0 ∈ words) (ok : ∀ x ∈ words, PyData.strOk x = true) (hz : words.length ≤ 1000) (has : ∀ S : List V → Hp → Prop, S (words.map V.str) H → as σ H S) (he : σ[ie]? = some (some (.ref a))) (hne : iw ≠ ie) (hl : iw < σ.length)
    (hsp : ∀ word H (Q : VK), PyData.strOk word = true → (∀ H', Ext [] H H' → Q (.bl (decide (D0 = word))) H') → spo a c d [.ref a, .str word] H Q E0) (q : ∀ H', Ext [] H H' → rt (.str D0) H') :
    tForN (iList K (tLst as)) (gName iw) (tIfS (tB (tCallE spo a c d (tCons (tVar ie) (tCons (tVar iw) tNil)))) (tRet (tVar iw)) tNext) ⟨nx, rt, bk, ct⟩ σ H := by
  unfold tForN iList
  refine k_lst (has _ (l_lst (by rw [List.length_map]; exact hz) (l_new (Run.start (F := []) Live.nil) fun l H1 f1 f2 f3 r1 h1 s1 => ?_)))
  refine ⟨l, rfl, ⟨_, SqL.of h1⟩, ?_⟩
  refine forN_list (K := K) (a := l) (xs := words.map V.str) (fun i σ' H' => (∀ j, j < i → words[j]? ≠ some D0) ∧ σ'[ie]? = some (some (.ref a)) ∧ σ'.length = σ.length ∧ Ext [] H1 H') ⟨fun j h => by omega, he, rfl, Ext.refl _ _⟩
    (fun i σ' H' p => SqL.of (p.2.2.2.keep _ _ h1 (by simp))) (fun i σ' H' p => ?_) (fun i x σ' H' ex p => ?_)
  · rw [List.length_map]
    rcases Nat.lt_or_ge i words.length with z | z
    · exact z
    · obtain ⟨j, hj, e⟩ := List.mem_iff_getElem.mp hm
      exact absurd (show words[j]? = some D0 by rw [List.getElem?_eq_getElem hj, e]) (p.1 j (by omega))
  · obtain ⟨p1, p2, p3, p4⟩ := p
    rw [List.getElem?_map] at ex
    cases ew : words[i]? with
    | none => rw [ew] at ex; cases ex
    | some wd =>
      rw [ew] at ex
      obtain rfl : V.str wd = x := Option.some.inj ex
      have okw : PyData.strOk wd = true := ok wd (List.mem_of_getElem? ew)
      refine g_name (k_ifS (k_B (k_callE (k_cons (k_var (v := .ref a) (by rw [List.getElem?_set_ne hne]; exact p2) (k_cons (k_var (v := .str wd) (by rw [List.getElem?_set_self (by omega)]) (k_nil ?_))))))))
      refine hsp wd H' _ okw fun H2 e2 => k_bl (k_ifd (fun cc => ?_) fun cc => ?_)
      · refine k_ret (k_var (v := .str wd) (by rw [List.getElem?_set_self (by omega)]) ?_)
        subst cc
        exact q _ (Ext.trans r1.ext (Ext.trans p4 e2))
      · refine k_next ⟨fun j hj e => ?_, by rw [List.getElem?_set_ne hne]; exact p2, by rw [List.length_set]; exact p3, p4.trans e2⟩
        rcases Nat.lt_or_ge j i with z | z
        · exact p1 j z e
        · have : j = i := by omega
          subst this
          rw [ew] at e
          exact cc (Option.some.inj e).symm
end LW
namespace LW
open PySem PySem.Spec PyProof.Rows L2
theorem l_wAs {K : PySem.W.Frag} {c : Value} {i : Nat} {ts : Addr → Value → Option Addr → TS} {Wout : WX} {nx bk ct : St → Hp → Prop} {rt : VK} {σ : St} {cls : Value} {d : Option Addr} {H : Hp} (h : PySem.W.exmOne K cls c = some true)
    (q : ∀ a, H a = none → ts a cls d ⟨fun σ' H' => nx (σ'.set i none) H', rt, fun σ' H' => bk (σ'.set i none) H', fun σ' H' => ct (σ'.set i none) H'⟩ (σ.set i (some (.ref a))) H) : WE (wAs K c i ts Wout ⟨nx, rt, bk, ct⟩) σ cls d H :=
  ⟨true, h, fun _ => q, fun z => by cases z⟩
end LW
namespace LW
open PySem PySem.Spec PyProof.Rows L2
section
variable {K : PySem.W.Frag} {nx bk ct : St → Hp → Prop} {rt : VK} {σ : St} {H : Hp} {Q : VK} {ta : TE}
theorem k_ntt {A B : Prop} (h : B) : if (!true) = true then A else B := h
theorem k_ntf {A B : Prop} (h : A) : if (!false) = true then A else B := h
theorem k_clear (h : ta σ H fun x H1 => tyV K "list" x H1 ∧ rClear x [] H1 Q) : tBM0 K "list" rClear ta σ H Q := h
theorem l_clear {F : List Addr} {H0 : Hp} {a : Addr} {xs : List V} (r : Run F H0 H) (h : H a = some (.lst xs)) (w : a ∈ F ∨ H0 a = none)
    (q : ∀ H', Run F H0 H' → H' a = some (.lst []) → (∀ b, b ≠ a → H' b = H b) → Q .non H') : rClear (.ref a) [] H Q :=
  ⟨a, xs, rfl, rfl, h, q _ (r.wr h (by intro _ z; cases z) w) upd_same fun b n => upd_ne n⟩
end
end LW
namespace LW
open PySem PySem.Spec PyProof.Rows L2
theorem Run.seq {K : PySem.W.Frag} {H0 H : Hp} {a : Addr} {xs : List V} (r : Run [] H0 H) (h : SqL K H0 a xs) : SqL K H a xs := r.ext.seqL (by simp) h
/-- several ways that go on alike -/
theorem lets {α β : Type} {p : Prop} (G : α → β → Prop) (Pre : α → β → Prop) (main : (∀ n h, Pre n h → G n h) → p) (key : ∀ n h, Pre n h → G n h) : p := main key
end LW

set_option maxHeartbeats 4000000
namespace LW
open PySem PySem.Spec PyProof.Rows L2
/-! ### texts -/
theorem str_ext {a b : Str} (h : a.cps.toList = b.cps.toList) : a = b := by
  cases a with
  | mk x =>
    cases b with
    | mk y => exact congrArg Str.mk (Array.toList_inj.mp h)
theorem len_toList (a : Str) : a.cps.toList.length = a.length := by rw [Array.length_toList]; rfl
/-- x begins with y -/
def begins (x y : Str) : Bool := decide (x.cps.toList.take y.length = y.cps.toList)
theorem cut_begin (x y : Str) : decide (cutS x none (some (y.length : Int)) = y) = begins x y := by
  unfold begins cutS
  rw [HT.sIx_none, HT.sIx_nat]
  have e : ((x.cps.toList.drop 0).take (min y.length x.length - 0)) = x.cps.toList.take y.length := by
    rw [List.drop_zero, Nat.sub_zero]
    rcases Nat.le_total y.length x.length with h | h
    · rw [Nat.min_eq_left h]
    · rw [Nat.min_eq_right h, List.take_of_length_le (by rw [len_toList]; omega), List.take_of_length_le (by rw [len_toList]; omega)]
  rw [e]
  refine decide_eq_decide.mpr ⟨fun h => ?_, fun h => str_ext h⟩
  exact congrArg (fun z : Str => z.cps.toList) h
theorem startswith_begin (x y : Str) : Txt.startswith x y = begins x y := by
  unfold begins Txt.startswith
  rw [StrLaws.subAt_eq, List.drop_zero]
  by_cases h : x.cps.toList.take y.length = y.cps.toList
  · have l : y.length ≤ x.length := by
      have := congrArg List.length h
      rw [List.length_take, len_toList, len_toList] at this
      omega
    simp [h, l]
  · simp [h]
theorem begins_empty (x : Str) : begins x Str.empty = true := by
  unfold begins
  exact decide_eq_true rfl
end LW
namespace LW
open PySem PySem.Spec PyProof.Rows L2
theorem all_toList (a : Str) : PyData.strOk a = a.cps.toList.all (· < 0x110000) := by
  show a.cps.all (· < 0x110000) = _
  rw [Array.all_toList]
theorem ok_append {a b : Str} (ha : PyData.strOk a = true) (hb : PyData.strOk b = true) : PyData.strOk (a ++ b) = true := by
  rw [all_toList] at *
  show ((a.cps ++ b.cps).toList).all _ = true
  rw [Array.toList_append, List.all_append, ha, hb]; rfl
theorem ok_cut {a : Str} {lo hi : Option Int} (ha : PyData.strOk a = true) : PyData.strOk (cutS a lo hi) = true := by
  rw [all_toList, List.all_eq_true] at *
  intro x hx
  exact ha x (List.mem_of_mem_drop (List.mem_of_mem_take hx))
theorem fold_ok : ∀ (r : List Str) (acc : Array Nat), (∀ y ∈ r, PyData.strOk y = true) → acc.toList.all (· < 0x110000) = true → (r.foldl (fun acc p => acc ++ Str.empty.cps ++ p.cps) acc).toList.all (· < 0x110000) = true
  | [], acc, _, h => h
  | p :: r, acc, hr, h => by
    rw [List.foldl_cons]
    refine fold_ok r _ (fun y m => hr y (List.mem_cons_of_mem _ m)) ?_
    have := hr p List.mem_cons_self
    rw [all_toList] at this
    rw [Array.toList_append, Array.toList_append, List.all_append, List.all_append, h, this]
    rfl
theorem ok_join {ys : List Str} (h : ∀ y ∈ ys, PyData.strOk y = true) : PyData.strOk (Txt.join Str.empty ys) = true := by
  rw [all_toList]
  show ((ys.drop 1).foldl (fun acc p => acc ++ Str.empty.cps ++ p.cps) (ys.headD Str.empty).cps).toList.all _ = true
  cases ys with
  | nil => rfl
  | cons y r =>
    refine fold_ok r _ (fun z m => h z (List.mem_cons_of_mem _ m)) ?_
    have := h y List.mem_cons_self
    rw [all_toList] at this
    exact this
theorem fold_len : ∀ (r : List Str) (acc : Array Nat), (r.foldl (fun acc p => acc ++ Str.empty.cps ++ p.cps) acc).size = acc.size + (r.map (·.length)).sum
  | [], acc => by simp
  | p :: r, acc => by
    rw [List.foldl_cons, fold_len r, Array.size_append, Array.size_append, List.map_cons, List.sum_cons]
    have e1 : Str.empty.cps.size = 0 := rfl
    have e2 : p.length = p.cps.size := rfl
    omega
theorem join_len (ys : List Str) : (Txt.join Str.empty ys).length = (ys.map (·.length)).sum := by
  show ((ys.drop 1).foldl (fun acc p => acc ++ Str.empty.cps ++ p.cps) (ys.headD Str.empty).cps).size = _
  cases ys with
  | nil => rfl
  | cons y r =>
    show (r.foldl (fun acc p => acc ++ Str.empty.cps ++ p.cps) y.cps).size = _
    rw [fold_len]
    rfl
end LW

set_option maxHeartbeats 4000000
namespace LW
open PySem PySem.Spec PyProof.Rows L2
/-! ### comprehensions over lists and ranges -/
section
variable {K : PySem.W.Frag} {σ : St} {H : Hp} {Q : VK} {te tl : TE} {tt : TT} {g : TG} {vs : List Nat} {ta : TA}
/-- the turns of a comprehension over J -/
def LTurns (J : It) (g : TG) (tt : TT) (te : TE) (vs : List Nat) (σ : St) (H : Hp) (Q : VK) : Prop := ∀ D, H D = none → ∃ W : Nat → Nat → Hp → Prop, (∃ m, W 0 m (upd H D (.lst []))) ∧ ∀ i m H, W i m H →
  (J.stop i H ∧ Q (.ref D) H) ∨ (J.go i H ∧ ∃ Nx : Hp → Prop, (∀ H', Nx H' → ∃ m', m' < m ∧ W (i + 1) m' H') ∧ ∀ x H', J.yld i H x H' → g x (wipe σ vs) H' fun σ2 H2 => wipe σ2 vs = wipe σ vs ∧ tt σ2 H2 fun b H3 =>
    if b = true then te σ2 H3 fun y H4 => ∃ acc, H4 D = some (.lst acc) ∧ acc.length < sizeLine ∧ Nx (upd H4 D (.lst (acc ++ [y]))) else Nx H3)
def LLc (K : PySem.W.Frag) (g : TG) (tt : TT) (te : TE) (vs : List Nat) (σ : St) (x : V) (H : Hp) (Q : VK) : Prop := ∃ a, x = .ref a ∧ (∃ xs, SqL K H a xs) ∧ LTurns (Itl K a) g tt te vs σ H Q
theorem k_lcL (h : tl σ H fun x H1 => LLc K g tt te vs σ x H1 Q) : tLc (iList K tl) g tt te vs σ H Q := h
def LLr (g : TG) (tt : TT) (te : TE) (vs : List Nat) (σ : St) (as : List V) (H : Hp) (Q : VK) : Prop := ∃ j : Int, as = [.int j] ∧ -(2 ^ 62) ≤ j ∧ j < 2 ^ 62 ∧ LTurns (Itr 0 j.toNat) g tt te vs σ H Q
theorem k_lcR (h : ta σ H fun as H1 => LLr g tt te vs σ as H1 Q) : tLc (iRng1 ta) g tt te vs σ H Q := h
/-- n turns, the i-th one over f i, the heap kept by the turn -/
theorem turns_by {J : It} {n : Nat} {f : Nat → V} (hz : n < sizeLine)
    (jg : ∀ i H1, Ext [] H H1 → i < n → J.go i H1) (js : ∀ H1, Ext [] H H1 → J.stop n H1) (jy : ∀ i H1 x H', Ext [] H H1 → i < n → J.yld i H1 x H' → H' = H1 ∧ x = f i)
    (S : V → St → St) (hg : ∀ x H1 (R : St → Hp → Prop), R (S x σ) H1 → g x (wipe σ vs) H1 fun σ2 H2 => wipe σ2 vs = wipe σ vs ∧ R σ2 H2)
    (P : Nat → List V → Hp → Prop) (h0 : P 0 [] H) (hP : ∀ i acc H1 H2, TupK H1 H2 → P i acc H1 → P i acc H2)
    (hs : ∀ i acc H1 (R : VK) (R0 : Hp → Prop), i < n → Ext [] H H1 → acc.length ≤ i → P i acc H1 →
      (∀ y H4, Ext [] H1 H4 → P (i + 1) (acc ++ [y]) H4 → R y H4) → (∀ H3, Ext [] H1 H3 → P (i + 1) acc H3 → R0 H3) →
      tt (S (f i) σ) H1 fun b H3 => if b = true then te (S (f i) σ) H3 R else R0 H3)
    (q : ∀ D H' acc, H D = none → Ext [] H H' → H' D = some (.lst acc) → acc.length ≤ n → P n acc H' → Q (.ref D) H') : LTurns J g tt te vs σ H Q := by
  intro D hD
  refine ⟨fun i m H1 => m = n - i ∧ i ≤ n ∧ Ext [] H H1 ∧ ∃ acc, H1 D = some (.lst acc) ∧ acc.length ≤ i ∧ P i acc H1, ⟨n, by simp, Nat.zero_le _, Ext.new hD, [], upd_same, Nat.le_refl _, hP 0 [] H _ (Ext.new (F := []) hD).tups h0⟩, ?_⟩
  rintro i m H1 ⟨rfl, hi, e, acc, hA, hl, p⟩
  by_cases hlt : i < n
  · refine .inr ⟨jg i H1 e hlt, fun H' => i + 1 ≤ n ∧ Ext [] H H' ∧ ∃ acc, H' D = some (.lst acc) ∧ acc.length ≤ i + 1 ∧ P (i + 1) acc H', fun H' p' => ⟨n - (i + 1), by omega, rfl, p'⟩, fun x H' y => ?_⟩
    obtain ⟨rfl, rfl⟩ := jy i H1 x H' e hlt y
    refine hg _ _ _ (hs i acc H' _ _ hlt e hl p (fun y H4 e4 p4 => ?_) fun H3 e3 p3 => ?_)
    · have h4 : H4 D = some (.lst acc) := e4.keep _ _ hA (by simp)
      refine ⟨acc, h4, by omega, hlt, (e.trans e4).wrN h4 (fun xs z => by cases z) hD, acc ++ [y], upd_same, by rw [List.length_append]; simpa using hl, hP _ _ H4 _ (TupK.upd fun xs z => by rw [h4] at z; cases z) p4⟩
    · exact ⟨hlt, e.trans e3, acc, e3.keep _ _ hA (by simp), Nat.le_succ_of_le hl, p3⟩
  · have : i = n := by omega
    subst this
    exact .inl ⟨js H1 e, q D H1 acc hD e hA hl p⟩
theorem wipe1 (σ : St) (j : Nat) (x : V) : wipe ((wipe σ [j]).set j (some x)) [j] = wipe σ [j] := by
  show ((σ.set j none).set j (some x)).set j none = σ.set j none
  rw [List.set_set, List.set_set]
theorem l_lcL {a : Addr} {xs : List V} {j : Nat} (hS : SqL K H a xs) (hz : xs.length < sizeLine) (P : Nat → List V → Hp → Prop) (h0 : P 0 [] H) (hP : ∀ i acc H1 H2, TupK H1 H2 → P i acc H1 → P i acc H2)
    (hs : ∀ i x acc H1 (R : VK) (R0 : Hp → Prop), xs[i]? = some x → Ext [] H H1 → acc.length ≤ i → P i acc H1 →
      (∀ y H4, Ext [] H1 H4 → P (i + 1) (acc ++ [y]) H4 → R y H4) → (∀ H3, Ext [] H1 H3 → P (i + 1) acc H3 → R0 H3) →
      tt (σ.set j (some x)) H1 fun b H3 => if b = true then te (σ.set j (some x)) H3 R else R0 H3)
    (q : ∀ D H' acc, H D = none → Ext [] H H' → H' D = some (.lst acc) → acc.length ≤ xs.length → P xs.length acc H' → Q (.ref D) H') : LLc K (gName j) tt te [j] σ (.ref a) H Q := by
  refine ⟨a, rfl, ⟨xs, hS⟩, turns_by (n := xs.length) (f := fun i => xs.getD i .non) hz (fun i H1 e h => ⟨xs, xs[i], e.seqL (by simp) hS, by simp [h]⟩) (fun H1 e => ?_) (fun i H1 x H' e h y => ?_) (fun x σ => σ.set j (some x)) (fun x H1 R r => ?_) P h0 hP (fun i acc H1 R R0 h e hl p q1 q0 => ?_) q⟩
  · exact ⟨xs, e.seqL (by simp) hS, Nat.le_refl _⟩
  · obtain ⟨e1, y⟩ := y
    subst e1
    have z := y xs (e.seqL (by simp) hS)
    rw [List.getD_eq_getElem?_getD, z]
    exact ⟨rfl, rfl⟩
  · refine ⟨wipe1 σ j x, ?_⟩
    rw [show (wipe σ [j]).set j (some x) = σ.set j (some x) from sets3 σ j _]
    exact r
  · refine hs i _ acc H1 R R0 ?_ e hl p q1 q0
    rw [List.getD_eq_getElem?_getD, List.getElem?_eq_getElem h]
    rfl
theorem l_lcR {n : Int} {j : Nat} (hb : n ≤ 100000) (hb2 : -100000 ≤ n) (P : Nat → List V → Hp → Prop) (h0 : P 0 [] H) (hP : ∀ i acc H1 H2, TupK H1 H2 → P i acc H1 → P i acc H2)
    (hs : ∀ (i : Nat) acc H1 (R : VK) (R0 : Hp → Prop), i < n.toNat → Ext [] H H1 → acc.length ≤ i → P i acc H1 →
      (∀ y H4, Ext [] H1 H4 → P (i + 1) (acc ++ [y]) H4 → R y H4) → (∀ H3, Ext [] H1 H3 → P (i + 1) acc H3 → R0 H3) →
      tt (σ.set j (some (.int (0 + (i : Int))))) H1 fun b H3 => if b = true then te (σ.set j (some (.int (0 + (i : Int))))) H3 R else R0 H3)
    (q : ∀ D H' acc, H D = none → Ext [] H H' → H' D = some (.lst acc) → acc.length ≤ n.toNat → P n.toNat acc H' → Q (.ref D) H') : LLr (gName j) tt te [j] σ [.int n] H Q := by
  refine ⟨n, rfl, by omega, by omega, turns_by (n := n.toNat) (f := fun i => .int (0 + (i : Int))) (Nat.lt_of_le_of_lt (show n.toNat ≤ 100000 by omega) (by decide)) (fun i H1 e h => h) (fun H1 e => Nat.le_refl _) (fun i H1 x H' e h y => y) (fun x σ => σ.set j (some x)) (fun x H1 R r => ?_) P h0 hP hs q⟩
  refine ⟨wipe1 σ j x, ?_⟩
  rw [show (wipe σ [j]).set j (some x) = σ.set j (some x) from sets3 σ j _]
  exact r
end
end LW

set_option maxHeartbeats 4000000
namespace LW
open PySem PySem.Spec PyProof.Rows L2
/-! ### several things in the heap, each with what it owns -/
section
variable {ι : Type} [DecidableEq ι]
def at_ {α : Type} (f : ι → α) (i : ι) (x : α) : ι → α := fun j => if j = i then x else f j
theorem at_same {α : Type} {f : ι → α} {i : ι} {x : α} : at_ f i x i = x := if_pos rfl
theorem at_ne {α : Type} {f : ι → α} {i j : ι} {x : α} (h : j ≠ i) : at_ f i x j = f j := if_neg h
theorem at_id {α : Type} {f : ι → α} {i : ι} : at_ f i (f i) = f := by
  funext j
  unfold at_
  by_cases h : j = i
  · rw [if_pos h, h]
  · rw [if_neg h]
structure Sep (H0 H : Hp) (F : ι → List Addr) : Prop where
  ap : ∀ i j, i ≠ j → Apart (F i) (F j)
  lv : ∀ i, Live H (F i)
  ex : Ext [] H0 H
  nw : ∀ i, ∀ c ∈ F i, H0 c = none
theorem Grow.unb {H H0 : Hp} {F G : List Addr} (g : Grow H F G) (e : Ext [] H0 H) (n : ∀ c ∈ F, H0 c = none) : ∀ c ∈ G, H0 c = Option.none := fun c h => (g c h).elim (n c) fun z => e.free z (by simp)
theorem Sep.step {H0 H H' : Hp} {F : ι → List Addr} {i : ι} {G : List Addr} (S : Sep H0 H F) (e : Ext (F i) H H') (g : Grow H (F i) G) (l : Live H' G) : Sep H0 H' (at_ F i G) := by
  refine ⟨fun j k h => ?_, fun j => ?_, S.ex.then e fun c h => .inr (S.nw i c h), fun j => ?_⟩
  · by_cases hj : j = i
    · subst hj
      rw [at_same, at_ne (Ne.symm h)]
      exact (S.ap j k h).grow g (S.lv k)
    · rw [at_ne hj]
      by_cases hk : k = i
      · subst hk
        rw [at_same]
        exact ((S.ap k j (Ne.symm h)).grow g (S.lv j)).symm
      · rw [at_ne hk]
        exact S.ap j k h
  · by_cases hj : j = i
    · subst hj; rw [at_same]; exact l
    · rw [at_ne hj]; exact (S.lv j).ext e (S.ap j i hj)
  · by_cases hj : j = i
    · subst hj; rw [at_same]; exact g.unb S.ex (S.nw j)
    · rw [at_ne hj]; exact S.nw j
theorem Sep.keepF {H0 H H' : Hp} {F : ι → List Addr} {i : ι} (S : Sep H0 H F) (e : Ext (F i) H H') (l : Live H' (F i)) : Sep H0 H' F := by
  have z := S.step e (Grow.refl _ _) l
  rw [at_id] at z
  exact z
theorem Sep.same {H0 H H' : Hp} {F : ι → List Addr} (S : Sep H0 H F) (e : Ext [] H H') : Sep H0 H' F :=
  ⟨S.ap, fun i => (S.lv i).ext e fun _ _ z => (by cases z), S.ex.trans e, S.nw⟩
/-- the thing at j is out of the reach of what the one at i does -/
theorem Sep.out {H0 H : Hp} {F : ι → List Addr} {i j : ι} (S : Sep H0 H F) (h : j ≠ i) : Apart (F j) (F i) := S.ap j i h
end
/-- a new list, then something that may write it -/
theorem Ext.newThen {F G : List Addr} {H H1 H' : Hp} (a : Ext [] H H1) (b : Ext G H1 H') (h : ∀ c ∈ G, c ∈ F ∨ H c = none) : Ext F H H' := (a.sub (fun _ z => by cases z) : Ext F H H1).then b h
theorem Grow.mono {H H1 : Hp} {F G : List Addr} (g : Grow H1 F G) (e : Ext [] H H1) : Grow H F G := fun c h => (g c h).elim .inl fun z => .inr (e.free z (by simp))
theorem Grow.of {H : Hp} {F G : List Addr} (h : ∀ c ∈ G, c ∈ F ∨ H c = none) : Grow H F G := h
theorem Live.of {H : Hp} {F : List Addr} (h : ∀ c ∈ F, H c ≠ none) : Live H F := h
theorem Apart.sub {F G F' G' : List Addr} (h : Apart F G) (h1 : ∀ c ∈ F', c ∈ F) (h2 : ∀ c ∈ G', c ∈ G) : Apart F' G' := fun c a b => h c (h1 c a) (h2 c b)
/-! ### things: each with what it owns -/
structure Thing where
  At : Hp → List Addr → Prop
  ext : ∀ {H H' : Hp} {F G : List Addr}, At H F → Ext G H H' → Apart F G → At H' F
  live : ∀ {H : Hp} {F : List Addr}, At H F → Live H F
structure Wd {ι : Type} [DecidableEq ι] (H0 H : Hp) (F : ι → List Addr) (R : ι → Thing) : Prop where
  sep : Sep H0 H F
  r : ∀ i, (R i).At H (F i)
section
variable {ι : Type} [DecidableEq ι] {H0 H H' : Hp} {F : ι → List Addr} {R : ι → Thing}
theorem Wd.step {i : ι} {G : List Addr} {T : Thing} (S : Wd H0 H F R) (e : Ext (F i) H H') (g : Grow H (F i) G) (h : T.At H' G) : Wd H0 H' (at_ F i G) (at_ R i T) :=
  ⟨S.sep.step e g (T.live h), fun j => by
    by_cases z : j = i
    · subst z; rw [at_same, at_same]; exact h
    · rw [at_ne z, at_ne z]; exact (R j).ext (S.r j) e (S.sep.ap j i z)⟩
theorem Wd.same (S : Wd H0 H F R) (e : Ext [] H H') : Wd H0 H' F R := ⟨S.sep.same e, fun j => (R j).ext (S.r j) e fun _ _ z => by cases z⟩
theorem Wd.mono {R' : ι → Thing} (S : Wd H0 H F R) (h : ∀ i H F, (R i).At H F → (R' i).At H F) : Wd H0 H F R' := ⟨S.sep, fun i => h i _ _ (S.r i)⟩
theorem Wd.keepF {i : ι} {T : Thing} (S : Wd H0 H F R) (e : Ext (F i) H H') (h : T.At H' (F i)) : Wd H0 H' F (at_ R i T) := by
  have z := S.step e (Grow.refl _ _) h
  rw [at_id] at z
  exact z
end
/-- nothing yet -/
def noTh : Thing where
  At := fun _ F => F = []
  ext := fun h _ _ => h
  live := fun h => by subst h; exact Live.nil
section
variable {ι : Type} [DecidableEq ι] {H : Hp}
theorem Wd.start : Wd (ι := ι) H H (fun _ => []) (fun _ => noTh) := ⟨⟨fun _ _ _ _ z => absurd z List.not_mem_nil, fun _ => Live.nil, Ext.refl _ _, fun _ _ z => absurd z List.not_mem_nil⟩, fun _ => rfl⟩
end
theorem Grow.nil {H : Hp} {F : List Addr} : Grow H F [] := fun _ z => by cases z
theorem Grow.cons {H : Hp} {F G : List Addr} {a : Addr} (h : H a = none) (g : Grow H F G) : Grow H F (a :: G) := fun c z => (List.mem_cons.mp z).elim (fun e => .inr (e ▸ h)) (g c)
theorem Grow.app2 {H : Hp} {F G1 G2 : List Addr} (h1 : Grow H F G1) (h2 : Grow H F G2) : Grow H F (G1 ++ G2) := fun c m => (List.mem_append.mp m).elim (h1 c) (h2 c)
theorem Wd.bump {ι : Type} [DecidableEq ι] {H0 H H' : Hp} {F : ι → List Addr} {R : Nat → ι → Thing} {N N' : Nat} {i : ι} {G : List Addr} (mono : ∀ {N N' : Nat} {i : ι} {H : Hp} {F : List Addr}, N ≤ N' → (R N i).At H F → (R N' i).At H F)
    (S : Wd H0 H F (R N)) (h : (R N' i).At H' G) (g : Grow H (F i) G) (e : Ext (F i) H H') (z : N ≤ N') : Wd H0 H' (at_ F i G) (R N') := by
  refine (S.step (T := R N' i) e g h).mono fun j H1 F1 h1 => ?_
  by_cases c : j = i
  · subst c; rw [at_same] at h1; exact h1
  · rw [at_ne c] at h1; exact mono z h1
end LW

set_option maxHeartbeats 4000000
namespace LW
open PySem PySem.Spec PyProof.Rows L2
/-! ### more built-ins by names -/
def rSW : V → List V → Hp → VK → Prop := fun x xs H Q => ∃ a b, x = .str a ∧ xs = [.str b] ∧ Q (.bl (begins a b)) H
def rJoin (K : PySem.W.Frag) : V → List V → Hp → VK → Prop := fun x xs H Q => ∃ p, ∃ ys : List Str, x = .str Str.empty ∧ xs = [.ref p] ∧ SqL K H p (ys.map V.str) ∧ (ys.map (·.length)).sum ≤ 16777216 ∧ Q (.str (Txt.join Str.empty ys)) H
def rMax : List V → Hp → VK → Prop := fun xs H Q => ∃ i j : Int, xs = [.int i, .int j] ∧ Q (.int (max i j)) H
def rMin : List V → Hp → VK → Prop := fun xs H Q => ∃ i j : Int, xs = [.int i, .int j] ∧ Q (.int (min i j)) H
def rAbs : List V → Hp → VK → Prop := fun xs H Q => ∃ i : Int, xs = [.int i] ∧ Q (.int (i.natAbs : Int)) H
section
variable {X : Cx}
theorem oSW : MtR X "str.startswith" rSW := fun pins s σ H x xs v us Q I rx rv ⟨a, b, ex, eb, q⟩ => mt_startswith pins s σ H x xs v us Q I rx rv ⟨a, b, ex, eb, by rw [startswith_begin]; exact q⟩
theorem oMax (hc : X.calm = true) : CallR X (.builtin "max") rMax := fun pins s σ H xs us Q I r ⟨i, j, e, q⟩ => call_max2 hc pins s σ H xs us Q I r ⟨i, j, e, by
  have : (if j > i then j else i) = max i j := by rw [Int.max_def]; split <;> split <;> omega
  rw [this]; exact q⟩
theorem oMin (hc : X.calm = true) : CallR X (.builtin "min") rMin := fun pins s σ H xs us Q I r ⟨i, j, e, q⟩ => call_min2 hc pins s σ H xs us Q I r ⟨i, j, e, by
  have : (if j < i then j else i) = min i j := by rw [Int.min_def]; split <;> split <;> omega
  rw [this]; exact q⟩
theorem oAbs : CallR X (.builtin "abs") rAbs := fun pins s σ H xs us Q I r ⟨i, e, q⟩ => call_abs pins s σ H xs us Q I r ⟨i, e, by
  have : (if i < 0 then -i else i) = (i.natAbs : Int) := by split <;> omega
  rw [this]; exact q⟩
theorem oJoin : MtR X "str.join" (rJoin X.K) := fun pins s σ H x xs v us Q I rx rv ⟨p, ys, ex, ep, h, z, q⟩ => mt_join pins s σ H x xs v us Q I rx rv ⟨Str.empty, p, ys, ex, ep, .inl h, by
  have : (Str.empty : Str).length = 0 := rfl
  rw [this]; omega, q⟩
end
section
variable {K : PySem.W.Frag} {σ : St} {H : Hp} {Q : VK} {to te : TE} {tl th : TO} {r : V → List V → Hp → VK → Prop} {R : Option Int → Hp → Prop} {rs : V → Option Int → Option Int → Hp → VK → Prop}
def LStr (x : V) (P : Prop) : Prop := (∃ a, x = .str a) ∧ P
theorem k_m1 (h : to σ H fun x H1 => LStr x (te σ H1 fun y H2 => r x [y] H2 Q)) : tM1 r to te σ H Q := h
theorem l_strX {a : Str} {P : Prop} (q : P) : LStr (.str a) P := ⟨⟨a, rfl⟩, q⟩
theorem l_sw {a b : Str} (q : Q (.bl (begins a b)) H) : rSW (.str a) [.str b] H Q := ⟨a, b, rfl, rfl, q⟩
theorem l_max {i j : Int} (q : Q (.int (max i j)) H) : rMax [.int i, .int j] H Q := ⟨i, j, rfl, q⟩
theorem l_min {i j : Int} (q : Q (.int (min i j)) H) : rMin [.int i, .int j] H Q := ⟨i, j, rfl, q⟩
theorem l_abs {i : Int} (q : Q (.int (i.natAbs : Int)) H) : rAbs [.int i] H Q := ⟨i, rfl, q⟩
theorem l_join {p : Addr} {ys : List Str} (h : SqL K H p (ys.map V.str)) (z : (ys.map (·.length)).sum ≤ 16777216) (q : Q (.str (Txt.join Str.empty ys)) H) : rJoin K (.str Str.empty) [.ref p] H Q := ⟨p, ys, rfl, rfl, h, z, q⟩
-- slices
theorem k_sl (h : to σ H fun x H1 => tl σ H1 fun l H2 => th σ H2 fun u H3 => rs x l u H3 Q) : tSl rs to tl th σ H Q := h
def LPart (x : V) (H : Hp) (R : Option Int → Hp → Prop) : Prop := ∃ i, x = .int i ∧ R (some i) H
theorem k_part (h : te σ H fun x H1 => LPart x H1 R) : tPart te σ H R := h
theorem l_part {i : Int} (q : R (some i) H) : LPart (.int i) H R := ⟨i, rfl, q⟩
theorem k_yes {R : Bool → Hp → Prop} (h : R true H) : tYes σ H R := h
theorem k_nopart (q : R none H) : tNoPart σ H R := q
theorem l_slS {z : Str} {lo hi : Option Int} (h : z.length ≤ sizeLine) (q : Q (.str (cutS z lo hi)) H) : rSlS (.str z) lo hi H Q := ⟨z, rfl, h, q⟩
theorem l_slL {F : List Addr} {H0 : Hp} {a : Addr} {xs : List V} {lo hi : Option Int} (r : Run F H0 H) (h : SqL K H a xs)
    (q : ∀ p H', H0 p = none → p ∉ F → H p = none → Run F H0 H' → H' p = some (.lst (cutV xs lo hi)) → Same H H' → Q (.ref p) H') : rSlL K (.ref a) lo hi H Q := ⟨a, xs, rfl, h, l_new r q⟩
theorem cutV_from {xs : List V} {n : Nat} : cutV xs (some (n : Int)) none = xs.drop n := by
  unfold cutV
  rw [HT.sIx_nat, HT.sIx_none]
  rcases Nat.le_total n xs.length with h | h
  · rw [Nat.min_eq_left h, List.take_of_length_le (by rw [List.length_drop]; exact Nat.le_refl _)]
  · rw [Nat.min_eq_right h, List.drop_of_length_le h, List.drop_of_length_le (Nat.le_refl _)]; simp
theorem cutV_to {xs : List V} {n : Nat} : cutV xs none (some (n : Int)) = xs.take n := by
  unfold cutV
  rw [HT.sIx_nat, HT.sIx_none, List.drop_zero, Nat.sub_zero]
  rcases Nat.le_total n xs.length with h | h
  · rw [Nat.min_eq_left h]
  · rw [Nat.min_eq_right h, List.take_of_length_le h, List.take_of_length_le (Nat.le_refl _)]
end
theorem filter_take_snoc {α : Type} {f : α → Bool} {l : List α} {i : Nat} {x : α} (h : l[i]? = some x) : (l.take (i + 1)).filter f = (l.take i).filter f ++ (if f x = true then [x] else []) := by
  rw [take_succ h, List.filter_append, List.filter_cons]
  rfl
theorem take_snoc_lt {α : Type} {A : List α} {x : α} {m : Nat} (h : (A.take m).length < m) : (A ++ [x]).take m = A.take m ++ [x] := by
  rw [List.length_take] at h
  rw [List.take_of_length_le (by omega : A.length ≤ m), List.take_of_length_le (by rw [List.length_append]; simp; omega)]
theorem take_snoc_ge {α : Type} {A : List α} {x : α} {m : Nat} (h : m ≤ (A.take m).length) : (A ++ [x]).take m = A.take m := by
  rw [List.length_take] at h
  exact List.take_append_of_le_length (by omega)
theorem Run.tk {H H' : Hp} {a : Addr} {xs : List V} (n : ∀ b, b ≠ a → H' b = H b) (h : H a = some (.lst xs)) : TupK H H' := fun c ys e => (n c (ne_of e h fun z => by cases z)).trans e
theorem atI_mem {α : Type} {xs : List α} {n : Int} (h : 0 ≤ n) (l : n < xs.length) : ∃ c, atI xs n = some c ∧ c ∈ xs := by
  have hm : n.toNat < xs.length := by omega
  exact ⟨xs[n.toNat], atI_of h (List.getElem?_eq_getElem hm), List.getElem_mem hm⟩
theorem l_ixS {H : Hp} {Q : VK} {z : Str} {n : Int} (hz : z.length ≤ sizeLine) (h : 0 ≤ n) (l : n < z.length) (ok : PyData.strOk z = true) (q : ∀ s, PyData.strOk s = true → s.length = 1 → Q (.str s) H) : rIxS (.str z) (.int n) H Q := by
  obtain ⟨c, ec, mc⟩ := atI_mem (xs := z.cps.toList) h (by rw [len_toList]; exact l)
  refine ⟨z, n, c, rfl, rfl, hz, ec, q _ ?_ rfl⟩
  rw [all_toList, List.all_eq_true] at *
  intro y my
  have : y = c := by simpa using my
  rw [this]
  exact ok c mc
/-! ### plain texts of bounded length -/
/-- a plain text of at most so many signs -/
structure Tx (n : Nat) (s : Str) : Prop where
  ok : PyData.strOk s = true
  le : s.length ≤ n
theorem len_app (a b : Str) : (a ++ b).length = a.length + b.length := by
  show (a.cps ++ b.cps).size = a.cps.size + b.cps.size
  exact Array.size_append
theorem len_cut (a : Str) (lo hi : Option Int) : (cutS a lo hi).length ≤ a.length := by
  rw [← len_toList a]
  unfold cutS
  rw [← len_toList]
  show ((a.cps.toList.drop _).take _).length ≤ _
  rw [List.length_take, List.length_drop]
  omega
theorem Tx.mono {m n : Nat} {s : Str} (h : Tx m s) (z : m ≤ n) : Tx n s := ⟨h.ok, Nat.le_trans h.le z⟩
theorem Tx.app {m n : Nat} {a b : Str} (h1 : Tx m a) (h2 : Tx n b) : Tx (m + n) (a ++ b) := ⟨ok_append h1.ok h2.ok, by rw [len_app]; have := h1.le; have := h2.le; omega⟩
theorem Tx.cut {n : Nat} {a : Str} {lo hi : Option Int} (h : Tx n a) : Tx n (cutS a lo hi) := ⟨ok_cut h.ok, Nat.le_trans (len_cut _ _ _) h.le⟩
theorem Tx.nil : Tx 0 Str.empty := ⟨by decide +kernel, by decide +kernel⟩
theorem Tx.small {n : Nat} {s : Str} (h : Tx n s) (z : n ≤ 1000) : s.length ≤ sizeLine := Nat.le_trans h.le (Nat.le_trans z (by decide))
section
variable {σ : St} {H : Hp} {Q : VK}
theorem x_addS {m n : Nat} {a b : Str} (h1 : Tx m a) (h2 : Tx n b) (z : m + n ≤ 1000) (q : Q (.str (a ++ b)) H) : rSadd (.str a) (.str b) H Q := k_addS (by rw [← len_app]; exact (h1.app h2).small z) q
theorem x_slS {n : Nat} {a : Str} {lo hi : Option Int} (h : Tx n a) (z : n ≤ 1000) (q : Q (.str (cutS a lo hi)) H) : rSlS (.str a) lo hi H Q := l_slS (h.small z) q
theorem x_lenX {n : Nat} {a : Str} (h : Tx n a) (z : n ≤ 1000) (q : Q (.int a.length) H) : rLenX [.str a] H Q := l_lenX (h.small z) q
end
/-! ### rows with texts: each carries that its texts are plain -/
structure Row where
  n : Int
  t : Int
  w : Str
  k : Str
  v : Str
  ow : Tx 1000 w
  ok : Tx 1000 k
  ov : Tx 1000 v
abbrev fR (r : Row) : List V := [.int r.n, .int r.t, .str r.w, .str r.k, .str r.v]
theorem fR_plain (r : Row) : (fR r).all plainV = true := by
  show (true && (true && (PyData.strOk r.w && (PyData.strOk r.k && (PyData.strOk r.v && true))))) = true
  rw [r.ow.ok, r.ok.ok, r.ov.ok]; rfl
abbrev IsR : Hp → V → Row → Prop := IsT fR
structure SS where
  k : Str
  v : Str
  ok : Tx 1000 k
  ov : Tx 1000 v
abbrev fS (p : SS) : List V := [.str p.k, .str p.v]
theorem fS_plain (p : SS) : (fS p).all plainV = true := by
  show (PyData.strOk p.k && (PyData.strOk p.v && true)) = true
  rw [p.ok.ok, p.ov.ok]; rfl
abbrev IsS : Hp → V → SS → Prop := IsT fS
/-! ### how values are picked for the parameters -/
theorem vals_app : ∀ {vs ws : List V} {us xs : List Value}, Vals vs us → Vals ws xs → Vals (vs ++ ws) (us ++ xs)
  | _, _, _, _, .nil, h => h
  | _, _, _, _, .cons a t, h => .cons a (vals_app t h)
theorem vals_pick : ∀ {vs : List V} {us : List Value} (j : Nat), Vals vs us → Vals ((vs.drop j).take 1) ((us.drop j).take 1)
  | _, _, j, .nil => by rw [List.drop_nil, List.drop_nil]; exact .nil
  | _, _, 0, .cons a t => .cons a .nil
  | _, _, j + 1, .cons a t => vals_pick j t
section
variable {σ : St} {H : Hp} {Q : VK} {ta : TE} {t tk : TA} {C : Addr} {m : Str} {n j : Nat} {sp : Sp} {gV : List V → List V → List V} {E : St → XK}
theorem k_methG (h : ta σ H fun x H1 => LIns C m x H1 (t σ H1 fun vs H2 => tk σ H2 fun zs H3 => (x :: vs).length = n ∧ zs.length = j ∧ sp (gV (x :: vs) zs) H3 Q (E σ))) : tMethG C m n j sp gV E ta t tk σ H Q := h
end
/-! ### within a comprehension the rules name K -/
theorem ix_tupK {X : Cx} {K : PySem.W.Frag} (e : X.K = K) : IxR X (rIxT K) := e ▸ ix_tup
theorem ix_listK {X : Cx} {K : PySem.W.Frag} (e : X.K = K) : IxR X (rIxL K) := e ▸ ix_list
theorem l_isiSS {K : PySem.W.Frag} {H : Hp} {Q : VK} {a : Str} (q : Q (.bl true) H) : rIsi K [.str a, .ty "str"] H Q := l_isiS rfl q
theorem atI_last {α : Type} {xs : List α} {v : α} (e : xs[xs.length - 1]? = some v) : atI xs (-1) = some v := by
  have h : 0 < xs.length := by
    rcases Nat.eq_zero_or_pos xs.length with z | z
    · rw [List.getElem?_eq_none (by omega)] at e; cases e
    · exact z
  unfold atI ixN
  rw [if_neg (by omega), if_pos (by omega)]
  have : (-1 + (xs.length : Int)).toNat = xs.length - 1 := by omega
  first
    | rw [this]; exact e
    | (simp only [Option.bind_some]; rw [show ((xs.length : Int) + -1).toNat = xs.length - 1 by omega]; exact e)
theorem ixTx {xs : List Str} {n : Int} {m : Nat} (h : 0 ≤ n) (l : n < xs.length) (ok : ∀ s ∈ xs, Tx m s) : ∃ s, atI (xs.map V.str) n = some (.str s) ∧ Tx m s := by
  obtain ⟨c, ec, mc⟩ := atI_mem (xs := xs.map V.str) h (by rw [List.length_map]; exact l)
  obtain ⟨t, mt, rfl⟩ := List.mem_map.mp mc
  exact ⟨t, ec, ok t mt⟩
def txB (m : Nat) (s : Str) : Bool := PyData.strOk s && decide (s.length ≤ m)
theorem txD {m : Nat} {s : Str} (h : txB m s = true) : Tx m s := by
  unfold txB at h
  rw [Bool.and_eq_true, decide_eq_true_eq] at h
  exact ⟨h.1, h.2⟩
theorem txA {m : Nat} {xs : List Str} (h : xs.all (txB m) = true) : ∀ s ∈ xs, Tx m s := fun s hs => txD (List.all_eq_true.mp h s hs)
/-! ### two ways that meet again -/
section
variable {nx bk ct : St → Hp → Prop} {rt : VK} {σ : St} {H : Hp} {t u : TS} {b : Bool}
theorem k_fork (Pre : St → Hp → Prop) (main : ∀ nx' : St → Hp → Prop, (∀ σ' H', Pre σ' H' → nx' σ' H') → if b = true then t ⟨nx', rt, bk, ct⟩ σ H else u ⟨nx', rt, bk, ct⟩ σ H)
    (key : ∀ σ' H', Pre σ' H' → nx σ' H') : if b = true then t ⟨nx, rt, bk, ct⟩ σ H else u ⟨nx, rt, bk, ct⟩ σ H := main nx key
theorem k_join (Pre : St → Hp → Prop) (main : ∀ nx' : St → Hp → Prop, (∀ σ' H', Pre σ' H' → nx' σ' H') → t ⟨nx', rt, bk, ct⟩ σ H) (key : ∀ σ' H', Pre σ' H' → nx σ' H') : t ⟨nx, rt, bk, ct⟩ σ H := main nx key
end
theorem ix2 {f : Bool → V} (n : Int) : atI [f false, f true] (n % 2) = some (f (decide (n % 2 = 1))) := by
  have h : n % 2 = 0 ∨ n % 2 = 1 := by omega
  rcases h with h | h <;> rw [h] <;> rfl
theorem ixI {xs : List Int} {n : Int} (h : 0 ≤ n) (l : n < xs.length) : ∃ d, atI (xs.map V.int) n = some (.int d) := ⟨_, atI_map (d := 0) h l⟩
end LW

set_option maxHeartbeats 4000000
namespace LW
open PySem PySem.Spec PyProof.Rows L2
/-! ### sorted texts -/
theorem ltC_anti : ∀ {a b : List Nat}, ltCps a b = false → ltCps b a = false → a = b
  | [], [], _, _ => rfl
  | [], _ :: _, h, _ => by simp [ltCps] at h
  | _ :: _, [], _, h => by simp [ltCps] at h
  | x :: a, y :: b, h1, h2 => by
    simp only [ltCps] at h1 h2
    have e : x = y := by
      rcases Nat.lt_trichotomy x y with z | z | z
      · simp [z] at h1
      · exact z
      · simp [z] at h2
    subst e
    simp at h1 h2
    rw [ltC_anti h1 h2]
theorem ltC_trans : ∀ {a b c : List Nat}, ltCps b a = false → ltCps c b = false → ltCps c a = false
  | [], _, c, _, _ => by cases c <;> simp [ltCps]
  | x :: a, [], _, h, _ => by simp [ltCps] at h
  | x :: a, y :: b, [], _, h => by simp [ltCps] at h
  | x :: a, y :: b, z :: c, h1, h2 => by
    simp only [ltCps] at h1 h2 ⊢
    rcases Nat.lt_trichotomy x y with p | p | p
    · rcases Nat.lt_trichotomy y z with q | q | q
      · have : x < z := by omega
        simp [Nat.lt_asymm this, Nat.ne_of_gt this]
      · subst q
        simp [Nat.lt_asymm p, Nat.ne_of_gt p]
      · simp [q] at h2
    · subst p
      rcases Nat.lt_trichotomy x z with q | q | q
      · simp [Nat.lt_asymm q, Nat.ne_of_gt q]
      · subst q
        simp at h1 h2 ⊢
        exact ltC_trans h1 h2
      · simp [q] at h2
    · simp [p] at h1
def leS (a b : Str) : Prop := ltCps b.cps.toList a.cps.toList = false
theorem leS_anti (a b : Str) (h : leS a b) (h' : leS b a) : a = b := (str_ext (ltC_anti h h')).symm
theorem leS_trans {a b c : Str} (h : leS a b) (h' : leS b c) : leS a c := ltC_trans h h'
theorem rising_pair : ∀ (p : Str) (l : List Str), risingS p l = true → (p :: l).Pairwise leS
  | p, [], _ => by simp
  | p, x :: l, h => by
    simp only [risingS, Bool.and_eq_true, Bool.not_eq_true'] at h
    have ih := rising_pair x l h.2
    refine List.pairwise_cons.mpr ⟨fun y hy => ?_, ih⟩
    rcases List.mem_cons.mp hy with e | e
    · subst e; exact h.1
    · exact leS_trans h.1 ((List.pairwise_cons.mp ih).1 y e)
theorem sorted_pair {l : List Str} (h : sortedS l = true) : l.Pairwise leS := by
  cases l with
  | nil => exact List.Pairwise.nil
  | cons x l => exact rising_pair x l h
theorem sortS_one {l m n : List Str} (h1 : l.Perm n) (s1 : sortedS l = true) (h2 : m.Perm n) (s2 : sortedS m = true) : l = m :=
  perm_sorted_eq leS_anti (h1.trans h2.symm) (sorted_pair s1) (sorted_pair s2)
open Classical in
/-- the sorted list of these texts -/
noncomputable def sortS (l : List Str) : List Str := if h : ∃ ys : List Str, ys.Perm l ∧ sortedS ys = true then h.choose else l
theorem sortS_eq {l ys : List Str} (h : ys.Perm l) (s : sortedS ys = true) : ys = sortS l := by
  have e : ∃ ys : List Str, ys.Perm l ∧ sortedS ys = true := ⟨ys, h, s⟩
  unfold sortS
  rw [dif_pos e]
  exact sortS_one h s e.choose_spec.1 e.choose_spec.2
open Classical in
theorem sortS_perm (l : List Str) : (sortS l).Perm l := by
  unfold sortS
  by_cases e : ∃ ys : List Str, ys.Perm l ∧ sortedS ys = true
  · rw [dif_pos e]; exact e.choose_spec.1
  · rw [dif_neg e]
/-! ### sorted, as steps -/
def rSortedD : List V → Hp → VK → Prop := fun xs H Q => ∃ (a : Addr) (kvs : List (Key × V)) (ks : List Str), xs = [.ref a] ∧ Rd H a (.dK kvs) ∧ kvs.map (·.1) = ks.map Sum.inr ∧ ks.length < 64 ∧
    ∀ ys p, ys.Perm ks → sortedS ys = true → H p = none → Q (.ref p) (upd H p (.lst (ys.map V.str)))
theorem oSortedD {X : Cx} (hc : X.calm = true) : CallR X (.builtin "sorted") rSortedD := call_sortedD hc
section
variable {K : PySem.W.Frag} {H : Hp} {Q : VK} {σ : St}
theorem l_sortedS {F : List Addr} {H0 : Hp} {a : Addr} {xs : List Str} (r : Run F H0 H) (h : SqL K H a (xs.map V.str)) (z : xs.length < 64)
    (q : ∀ p H', H0 p = none → p ∉ F → H p = none → Run F H0 H' → H' p = some (.lst ((sortS xs).map V.str)) → Same H H' → Q (.ref p) H') : rSortedS K [.ref a] H Q := by
  refine ⟨a, xs, rfl, h, z, fun ys p h1 h2 hp => ?_⟩
  rw [sortS_eq h1 h2]
  exact l_new r q p hp
theorem l_sortedD {α : Type} {W : Str → α → V} {F : List Addr} {H0 : Hp} {a : Addr} {l : List (Str × α)} (r : Run F H0 H) (h : H a = some (.dK (sk W l))) (z : l.length < 64)
    (q : ∀ p H', H0 p = none → p ∉ F → H p = none → Run F H0 H' → H' p = some (.lst ((sortS (l.map (·.1))).map V.str)) → Same H H' → Q (.ref p) H') : rSortedD [.ref a] H Q := by
  refine ⟨a, _, l.map (·.1), rfl, .inl h, ?_, by rw [List.length_map]; exact z, fun ys p h1 h2 hp => ?_⟩
  · unfold sk
    rw [List.map_map, List.map_map]; rfl
  · rw [sortS_eq h1 h2]
    exact l_new r q p hp
theorem l_gT2 {n : Nat} {a : Addr} {i j : Nat} {x y : V} {R : St → Hp → Prop} (hn : [x, y].length = n) (h : SqT K H a [x, y]) (q : R ((σ.set i (some x)).set j (some y)) H) : gTup K n (gCons (gName i) (gCons (gName j) gNil)) (.ref a) σ H R :=
  ⟨a, [x, y], rfl, h, hn, x, [y], rfl, y, [], rfl, rfl, q⟩
theorem smallM {n : Nat} (h : n ≤ 1000000) : n < sizeLine := Nat.lt_of_le_of_lt h (by decide)
end
/-! ### texts to texts -/
abbrev sv : Str → Str → V := fun _ v => .str v
theorem putK_sv {l : List (Str × Str)} {k v : Str} : putK (sk sv l) (Sum.inr k : Key) (.str v) = sk sv (aput l k v) := putK_sk rfl fun _ _ _ => rfl
theorem valV_sv {l : List (Str × Str)} {k v : Str} (h : aget l k = some v) : valV (sk sv l) (Sum.inr k : Key) = some (.str v) := by rw [valV_sk, h]; rfl
theorem nodup_sub {α : Type} [DecidableEq α] : ∀ {l m : List α}, l.Nodup → (∀ x ∈ l, x ∈ m) → l.length ≤ m.length
  | [], m, _, _ => Nat.zero_le _
  | x :: l, m, h, s => by
    rw [List.nodup_cons] at h
    have mx := s x List.mem_cons_self
    have ih := nodup_sub (l := l) (m := m.erase x) h.2 fun y hy => (List.mem_erase_of_ne (fun e : y = x => h.1 (by rw [← e]; exact hy))).mpr (s y (List.mem_cons_of_mem _ hy))
    rw [List.length_erase_of_mem mx] at ih
    have := List.length_pos_of_mem mx
    show l.length + 1 ≤ m.length
    omega
theorem adrop_none {κ α : Type} [DecidableEq κ] {l : List (κ × α)} {k : κ} (h : aget l k = none) : adrop l k = l := by
  unfold adrop
  rw [List.filter_eq_self]
  intro p hp
  have := aget_none.mp h
  simp only [decide_eq_true_eq]
  exact fun e => this (e ▸ List.mem_map_of_mem (f := (·.1)) hp)
/-! ### pairs of texts that are plain -/
open Classical in
noncomputable def ssOf (p : Str × Str) : SS := if h : Tx 1000 p.1 ∧ Tx 1000 p.2 then ⟨p.1, p.2, h.1, h.2⟩ else ⟨Str.empty, Str.empty, Tx.nil.mono (by decide), Tx.nil.mono (by decide)⟩
theorem ssOf_eq {p : Str × Str} (h : Tx 1000 p.1 ∧ Tx 1000 p.2) : ssOf p = ⟨p.1, p.2, h.1, h.2⟩ := dif_pos h
def PTx (l : List (Str × Str)) : Prop := ∀ p ∈ l, Tx 1000 p.1 ∧ Tx 1000 p.2
theorem PTx.put {l : List (Str × Str)} {k v : Str} (h : PTx l) (hk : Tx 1000 k) (hv : Tx 1000 v) : PTx (aput l k v) := fun p hp => (mem_aput hp).elim (fun e => by rw [e]; exact ⟨hk, hv⟩) fun z => h p z.1
theorem PTx.drop {l : List (Str × Str)} {k : Str} (h : PTx l) : PTx (adrop l k) := fun p hp => h p (mem_adrop.mp hp).1
/-- (key, value) of a table, by its keys in order -/
noncomputable def sortedPairs (l : List (Str × Str)) : List SS := (sortS (l.map (·.1))).map fun k => ssOf (k, (aget l k).getD Str.empty)
theorem foldl_snoc {α β : Type} {f : β → α → β} {b : β} {l : List α} {i : Nat} {x : α} (h : l[i]? = some x) : (l.take (i + 1)).foldl f b = f ((l.take i).foldl f b) x := by
  rw [take_succ h, List.foldl_append]; rfl
theorem getM {α : Type} {f : α → V} {l : List α} {i : Nat} {x : V} (h : (l.map f)[i]? = some x) : ∃ a, l[i]? = some a ∧ x = f a := by
  rw [List.getElem?_map] at h
  cases e : l[i]? with
  | none => rw [e] at h; cases h
  | some a => rw [e] at h; exact ⟨a, rfl, (Option.some.inj h).symm⟩
theorem take_map_snoc {α β : Type} {f : α → β} {l : List α} {i : Nat} {x : α} (h : l[i]? = some x) : (l.take (i + 1)).map f = (l.take i).map f ++ [f x] := by
  rw [take_succ h, List.map_append]; rfl
/-! ### more steps over lists -/
section
variable {K : PySem.W.Frag} {H : Hp} {Q : VK} {σ : St} {te : TE}
def LRev (K : PySem.W.Frag) (x : V) (H : Hp) (Q : VK) : Prop := ∃ a xs, x = .ref a ∧ SqL K H a xs ∧ LNew (.lst xs.reverse) H Q
theorem k_revL (h : te σ H fun x H1 => LRev K x H1 Q) : tRevL K te σ H Q := h
theorem l_rev {a : Addr} {xs : List V} (h : SqL K H a xs) (q : LNew (.lst xs.reverse) H Q) : LRev K (.ref a) H Q := ⟨a, xs, rfl, h, q⟩
theorem l_cat {l b : Addr} {xs zs : List V} (h1 : H l = some (.lst xs)) (h2 : H b = some (.lst zs)) (z : xs.length + zs.length ≤ 1000000) (q : LNew (.lst (xs ++ zs)) H Q) : rCat (.ref l) (.ref b) H Q :=
  ⟨l, b, xs, zs, rfl, rfl, h1, h2, Nat.le_trans z (by decide), q⟩
theorem l_in {neg : Bool} {x : V} {p : Addr} {xs : List V} (h : SqL K H p xs) (fx : flatV x = true) (fs : xs.all flatV = true) (q : ∀ b, Q (.bl b) H) : rIn K neg x (.ref p) H Q := ⟨p, xs, rfl, .inl h, fx, fs, q _⟩
end
theorem revT {f : α → List V} {H : Hp} : ∀ {ys : List V} {xs : List α}, Paired (IsT f H) ys xs → Paired (IsT f H) ys.reverse xs.reverse
  | _, _, .nil => .nil
  | _, _, .cons a t => by rw [List.reverse_cons, List.reverse_cons]; exact snocT (revT t) a
theorem cutT {f : α → List V} {H : Hp} {ys : List V} {xs : List α} {lo hi : Option Int} (h : Paired (IsT f H) ys xs) : ∃ a b : Nat, Paired (IsT f H) (cutV ys lo hi) ((xs.drop a).take b) := ⟨_, _, takeT _ (dropT _ h)⟩
/-! ### C(k = v, ..), C(): no value by place -/
section
variable {X : Cx} {CX : CXT} {k n : Nat} {f C : Addr} {fd : FuncData} {ps ks : List Str} {sp : Sp} {E : St → XK} {x : Str} {p pos : Pos} {kws : List Keyword} {tk : TA} {g : List Value → List Value → List Value} {gV : List V → List V → List V}
theorem pe_makeG0 (M : Mk X.K C f) (F : FnOk X.prog X.w X.K X.mg X.base CX k f fd ps sp) (hr : Room (k + 1) X.A) (hg : Gl X x) (hm : X.mg x = some (.ref C)) (hb : KBn X.K fd ps 1 ks g gV)
    (hx : ∀ σ, PassesAt CX X σ (E σ)) (hkw : PK X kws tk) (hall : (backToKw pos (keywordEach kws X.env)).all (·.1.isSome) = true := by rfl) (hks : (backToKw pos (keywordEach kws X.env)).filterMap (·.1) = ks := by rfl)
    (hdb : (x == ("__debug__" : Str)) = false := by decide)
    (hpl : ((backTo pos (starEach [] X.env)).any (·.1) || (backToKw pos (keywordEach kws X.env)).any (·.1.isNone)) = false := by rfl) :
    PE X (.Call (.Name x p) [] kws pos) (tMakeG C 0 ks.length sp gV E tNil tk) := by
  refine ⟨fun pins s σ H Q I h => ?_⟩
  refine wpAny_Call_Name_kw (ld_glob I hg hm ?_ hdb)
  refine PySem.W.callWith_KW0 (h₀ := X.base) I.ok.mod.kin M.kp hall ?_ hpl
  refine thn (hkw.run pos pins s σ H _ I h) fun ws s2 ⟨zs, H2, I2, rz, l1, l2, q2⟩ => ⟨I2.kIn, ?_⟩
  rw [hks]
  exact run_makeG (us := []) (vs := []) M F hr hb (hx σ) I2 .nil rz rfl l2 q2
end
theorem k_lens {a b n m : Nat} {p : Prop} (h1 : a = n) (h2 : b = m) (q : p) : a = n ∧ b = m ∧ p := ⟨h1, h2, q⟩
def rTupQ (K : PySem.W.Frag) : List V → Hp → VK → Prop := fun xs H Q => ∃ p ys, xs = [.ref p] ∧ ((SqL K H p ys ∧ ∀ l, H l = none → Q (.ref l) (upd H l (.tup ys))) ∨ (SqT K H p ys ∧ Q (.ref p) H))
def rInt1 : List V → Hp → VK → Prop := fun xs H Q => (∃ i, xs = [.int i] ∧ Q (.int i) H) ∨ ∃ k, xs = [.bl k] ∧ Q (.int (if k then 1 else 0)) H
theorem oTup {X : Cx} : CallR X (.type "tuple") (rTupQ X.K) := call_tuple_of
theorem oInt {X : Cx} : CallR X (.type "int") rInt1 := call_int1
section
variable {K : PySem.W.Frag} {H : Hp} {Q : VK}
theorem l_tupL {a : Addr} {xs : List V} (h : SqL K H a xs) (q : LNew (.tup xs) H Q) : rTupQ K [.ref a] H Q := ⟨a, xs, rfl, .inl ⟨h, q⟩⟩
theorem l_intB {b : Bool} (q : Q (.int (if b then 1 else 0)) H) : rInt1 [.bl b] H Q := .inr ⟨b, rfl, q⟩
end
end LW

set_option maxHeartbeats 4000000
namespace LW
open PySem PySem.Spec PyProof.Rows L2
def top (i : Nat) : Stmt := PySem.Challenge.pw_leasewatch_k03_an_ear_hears_once.main.body.getD i (.Pass ⟨0, 0, 0, 0⟩)
abbrev s_Ear_init : Stmt := inClass (top 1) 0
abbrev s_Ear_hear : Stmt := inClass (top 1) 1
abbrev s_Ear_heard : Stmt := inClass (top 1) 2
abbrev s_Ear_state : Stmt := inClass (top 1) 3
abbrev s_l_whole : Stmt := top 3
abbrev s_l_cell_at : Stmt := top 4
abbrev s_l_sign : Stmt := top 5
abbrev s_l_text : Stmt := top 6
abbrev s_l_pool : Stmt := top 7
abbrev s_l_prefix : Stmt := top 8
abbrev s_l_change : Stmt := top 9
abbrev s_l_changes : Stmt := top 10
abbrev s_l_pairs : Stmt := top 11
abbrev s_l_rows : Stmt := top 12
abbrev s_l_state : Stmt := top 13
abbrev s_l_made : Stmt := top 14
abbrev s_l_begin : Stmt := top 15
abbrev s_l_heard : Stmt := top 16
abbrev s_law : Stmt := top 17
/-- what the top has written -/
structure FX (K : PySem.W.Frag) (mg : Str → Option Value) : Prop where
  g_Ear : mg "Ear" = some (.ref (He.ga K "Ear"))
  g_l_whole : mg "_law_whole" = some (.ref (He.ga K "_law_whole"))
  g_l_cell_at : mg "_law_cell_at" = some (.ref (He.ga K "_law_cell_at"))
  g_l_sign : mg "_law_sign" = some (.ref (He.ga K "_law_sign"))
  g_l_text : mg "_law_text" = some (.ref (He.ga K "_law_text"))
  g_l_pool : mg "_law_pool" = some (.ref (He.ga K "_law_pool"))
  g_l_prefix : mg "_law_prefix" = some (.ref (He.ga K "_law_prefix"))
  g_l_change : mg "_law_change" = some (.ref (He.ga K "_law_change"))
  g_l_changes : mg "_law_changes" = some (.ref (He.ga K "_law_changes"))
  g_l_pairs : mg "_law_pairs" = some (.ref (He.ga K "_law_pairs"))
  g_l_rows : mg "_law_rows" = some (.ref (He.ga K "_law_rows"))
  g_l_state : mg "_law_state" = some (.ref (He.ga K "_law_state"))
  g_l_made : mg "_law_made" = some (.ref (He.ga K "_law_made"))
  g_l_begin : mg "_law_begin" = some (.ref (He.ga K "_law_begin"))
  g_l_heard : mg "_law_heard" = some (.ref (He.ga K "_law_heard"))
  g_law : mg "law" = some (.ref (He.ga K "law"))
  f_isinstance : mg "isinstance" = none
  f_len : mg "len" = none
  f_sorted : mg "sorted" = none
  f_range : mg "range" = none
  f_int : mg "int" = none
  f_bool : mg "bool" = none
  f_str : mg "str" = none
  f_list : mg "list" = none
  f_tuple : mg "tuple" = none
  f_ValueError : mg "ValueError" = none
  f_min : mg "min" = none
  f_max : mg "max" = none
  f_abs : mg "abs" = none
  f_zip : mg "zip" = none
  cl_Ear : Cls K (He.ga K "Ear")
  mk_Ear : Mk K (He.ga K "Ear") (He.ma K (He.ga K "Ear") "__init__")
  na_Ear_behind : NoAttr K (He.ga K "Ear") "behind"
  na_Ear_begun : NoAttr K (He.ga K "Ear") "begun"
  na_Ear_rows : NoAttr K (He.ga K "Ear") "rows"
  me_Ear_hear : Meth K (He.ga K "Ear") "hear" (He.ma K (He.ga K "Ear") "hear")
  me_Ear_heard : Meth K (He.ga K "Ear") "heard" (He.ma K (He.ga K "Ear") "heard")
  me_Ear_state : Meth K (He.ga K "Ear") "state" (He.ma K (He.ga K "Ear") "state")
  F_Ear_init : FunD K "__init__" "Ear.__init__" (defArgs s_Ear_init) (defBody s_Ear_init) (defScope s_Ear_init) [V.int 1, V.non] [] (He.ma K (He.ga K "Ear") "__init__") (fdAt K ("Ear", some "__init__"))
  F_Ear_hear : FunD K "hear" "Ear.hear" (defArgs s_Ear_hear) (defBody s_Ear_hear) (defScope s_Ear_hear) [] [] (He.ma K (He.ga K "Ear") "hear") (fdAt K ("Ear", some "hear"))
  F_Ear_heard : FunD K "heard" "Ear.heard" (defArgs s_Ear_heard) (defBody s_Ear_heard) (defScope s_Ear_heard) [] [] (He.ma K (He.ga K "Ear") "heard") (fdAt K ("Ear", some "heard"))
  F_Ear_state : FunD K "state" "Ear.state" (defArgs s_Ear_state) (defBody s_Ear_state) (defScope s_Ear_state) [] [] (He.ma K (He.ga K "Ear") "state") (fdAt K ("Ear", some "state"))
  F_l_whole : FunD K "_law_whole" "_law_whole" (defArgs s_l_whole) (defBody s_l_whole) (defScope s_l_whole) [] [] (He.ga K "_law_whole") (fdAt K ("_law_whole", none))
  F_l_cell_at : FunD K "_law_cell_at" "_law_cell_at" (defArgs s_l_cell_at) (defBody s_l_cell_at) (defScope s_l_cell_at) [] [] (He.ga K "_law_cell_at") (fdAt K ("_law_cell_at", none))
  F_l_sign : FunD K "_law_sign" "_law_sign" (defArgs s_l_sign) (defBody s_l_sign) (defScope s_l_sign) [] [] (He.ga K "_law_sign") (fdAt K ("_law_sign", none))
  F_l_text : FunD K "_law_text" "_law_text" (defArgs s_l_text) (defBody s_l_text) (defScope s_l_text) [] [] (He.ga K "_law_text") (fdAt K ("_law_text", none))
  F_l_pool : FunD K "_law_pool" "_law_pool" (defArgs s_l_pool) (defBody s_l_pool) (defScope s_l_pool) [] [] (He.ga K "_law_pool") (fdAt K ("_law_pool", none))
  F_l_prefix : FunD K "_law_prefix" "_law_prefix" (defArgs s_l_prefix) (defBody s_l_prefix) (defScope s_l_prefix) [] [] (He.ga K "_law_prefix") (fdAt K ("_law_prefix", none))
  F_l_change : FunD K "_law_change" "_law_change" (defArgs s_l_change) (defBody s_l_change) (defScope s_l_change) [] [] (He.ga K "_law_change") (fdAt K ("_law_change", none))
  F_l_changes : FunD K "_law_changes" "_law_changes" (defArgs s_l_changes) (defBody s_l_changes) (defScope s_l_changes) [] [] (He.ga K "_law_changes") (fdAt K ("_law_changes", none))
  F_l_pairs : FunD K "_law_pairs" "_law_pairs" (defArgs s_l_pairs) (defBody s_l_pairs) (defScope s_l_pairs) [] [] (He.ga K "_law_pairs") (fdAt K ("_law_pairs", none))
  F_l_rows : FunD K "_law_rows" "_law_rows" (defArgs s_l_rows) (defBody s_l_rows) (defScope s_l_rows) [] [] (He.ga K "_law_rows") (fdAt K ("_law_rows", none))
  F_l_state : FunD K "_law_state" "_law_state" (defArgs s_l_state) (defBody s_l_state) (defScope s_l_state) [] [] (He.ga K "_law_state") (fdAt K ("_law_state", none))
  F_l_made : FunD K "_law_made" "_law_made" (defArgs s_l_made) (defBody s_l_made) (defScope s_l_made) [] [] (He.ga K "_law_made") (fdAt K ("_law_made", none))
  F_l_begin : FunD K "_law_begin" "_law_begin" (defArgs s_l_begin) (defBody s_l_begin) (defScope s_l_begin) [] [] (He.ga K "_law_begin") (fdAt K ("_law_begin", none))
  F_l_heard : FunD K "_law_heard" "_law_heard" (defArgs s_l_heard) (defBody s_l_heard) (defScope s_l_heard) [] [] (He.ga K "_law_heard") (fdAt K ("_law_heard", none))
  F_law : FunD K "law" "law" (defArgs s_law) (defBody s_law) (defScope s_law) [] [] (He.ga K "law") (fdAt K ("law", none))
section
variable {K : PySem.W.Frag} {mg : Str → Option Value}
theorem FX.b_Ear_hear (T : FX K mg) : Binds K (fdAt K ("Ear", some "hear")) ["self", "changes"] [] := T.F_Ear_hear.bindsN fun _ _ _ _ _ _ us hl => match us, hl with | [_, _], _ => rfl
theorem FX.b_Ear_heard (T : FX K mg) : Binds K (fdAt K ("Ear", some "heard")) ["self"] [] := T.F_Ear_heard.bindsN fun _ _ _ _ _ _ us hl => match us, hl with | [_], _ => rfl
theorem FX.b_Ear_state (T : FX K mg) : Binds K (fdAt K ("Ear", some "state")) ["self"] [] := T.F_Ear_state.bindsN fun _ _ _ _ _ _ us hl => match us, hl with | [_], _ => rfl
theorem FX.k_l_whole (T : FX K mg) : PySem.W.keepIn K (.ref (He.ga K "_law_whole")) = true := T.F_l_whole.kp
theorem FX.b_l_whole (T : FX K mg) : Binds K (fdAt K ("_law_whole", none)) ["_law_found"] [] := T.F_l_whole.bindsN fun _ _ _ _ _ _ us hl => match us, hl with | [_], _ => rfl
theorem FX.k_l_cell_at (T : FX K mg) : PySem.W.keepIn K (.ref (He.ga K "_law_cell_at")) = true := T.F_l_cell_at.kp
theorem FX.b_l_cell_at (T : FX K mg) : Binds K (fdAt K ("_law_cell_at", none)) ["_law_script", "_law_k"] [] := T.F_l_cell_at.bindsN fun _ _ _ _ _ _ us hl => match us, hl with | [_, _], _ => rfl
theorem FX.k_l_sign (T : FX K mg) : PySem.W.keepIn K (.ref (He.ga K "_law_sign")) = true := T.F_l_sign.kp
theorem FX.b_l_sign (T : FX K mg) : Binds K (fdAt K ("_law_sign", none)) ["_law_cell"] [] := T.F_l_sign.bindsN fun _ _ _ _ _ _ us hl => match us, hl with | [_], _ => rfl
theorem FX.k_l_text (T : FX K mg) : PySem.W.keepIn K (.ref (He.ga K "_law_text")) = true := T.F_l_text.kp
theorem FX.b_l_text (T : FX K mg) : Binds K (fdAt K ("_law_text", none)) ["_law_cell", "_law_size"] [] := T.F_l_text.bindsN fun _ _ _ _ _ _ us hl => match us, hl with | [_, _], _ => rfl
theorem FX.k_l_pool (T : FX K mg) : PySem.W.keepIn K (.ref (He.ga K "_law_pool")) = true := T.F_l_pool.kp
theorem FX.b_l_pool (T : FX K mg) : Binds K (fdAt K ("_law_pool", none)) ["_law_cell", "_law_other"] [] := T.F_l_pool.bindsN fun _ _ _ _ _ _ us hl => match us, hl with | [_, _], _ => rfl
theorem FX.k_l_prefix (T : FX K mg) : PySem.W.keepIn K (.ref (He.ga K "_law_prefix")) = true := T.F_l_prefix.kp
theorem FX.b_l_prefix (T : FX K mg) : Binds K (fdAt K ("_law_prefix", none)) ["_law_pool_here", "_law_cell"] [] := T.F_l_prefix.bindsN fun _ _ _ _ _ _ us hl => match us, hl with | [_, _], _ => rfl
theorem FX.k_l_change (T : FX K mg) : PySem.W.keepIn K (.ref (He.ga K "_law_change")) = true := T.F_l_change.kp
theorem FX.b_l_change (T : FX K mg) : Binds K (fdAt K ("_law_change", none)) ["_law_found"] [] := T.F_l_change.bindsN fun _ _ _ _ _ _ us hl => match us, hl with | [_], _ => rfl
theorem FX.k_l_changes (T : FX K mg) : PySem.W.keepIn K (.ref (He.ga K "_law_changes")) = true := T.F_l_changes.kp
theorem FX.b_l_changes (T : FX K mg) : Binds K (fdAt K ("_law_changes", none)) ["_law_found", "_law_due"] [] := T.F_l_changes.bindsN fun _ _ _ _ _ _ us hl => match us, hl with | [_, _], _ => rfl
theorem FX.k_l_pairs (T : FX K mg) : PySem.W.keepIn K (.ref (He.ga K "_law_pairs")) = true := T.F_l_pairs.kp
theorem FX.b_l_pairs (T : FX K mg) : Binds K (fdAt K ("_law_pairs", none)) ["_law_found", "_law_due"] [] := T.F_l_pairs.bindsN fun _ _ _ _ _ _ us hl => match us, hl with | [_, _], _ => rfl
theorem FX.k_l_rows (T : FX K mg) : PySem.W.keepIn K (.ref (He.ga K "_law_rows")) = true := T.F_l_rows.kp
theorem FX.b_l_rows (T : FX K mg) : Binds K (fdAt K ("_law_rows", none)) ["_law_script", "_law_pool_here"] [] := T.F_l_rows.bindsN fun _ _ _ _ _ _ us hl => match us, hl with | [_, _], _ => rfl
theorem FX.k_l_state (T : FX K mg) : PySem.W.keepIn K (.ref (He.ga K "_law_state")) = true := T.F_l_state.kp
theorem FX.b_l_state (T : FX K mg) : Binds K (fdAt K ("_law_state", none)) ["_law_given", "_law_taken"] [] := T.F_l_state.bindsN fun _ _ _ _ _ _ us hl => match us, hl with | [_, _], _ => rfl
theorem FX.k_l_made (T : FX K mg) : PySem.W.keepIn K (.ref (He.ga K "_law_made")) = true := T.F_l_made.kp
theorem FX.b_l_made (T : FX K mg) : Binds K (fdAt K ("_law_made", none)) ["_law_begin_here", "_law_given", "_law_cell"] [] := T.F_l_made.bindsN fun _ _ _ _ _ _ us hl => match us, hl with | [_, _, _], _ => rfl
theorem FX.k_l_begin (T : FX K mg) : PySem.W.keepIn K (.ref (He.ga K "_law_begin")) = true := T.F_l_begin.kp
theorem FX.b_l_begin (T : FX K mg) : Binds K (fdAt K ("_law_begin", none)) ["_law_pool_here", "_law_cell"] [] := T.F_l_begin.bindsN fun _ _ _ _ _ _ us hl => match us, hl with | [_, _], _ => rfl
theorem FX.k_l_heard (T : FX K mg) : PySem.W.keepIn K (.ref (He.ga K "_law_heard")) = true := T.F_l_heard.kp
theorem FX.b_l_heard (T : FX K mg) : Binds K (fdAt K ("_law_heard", none)) ["_law_ear", "_law_taken", "_law_begin_here", "_law_batch", "_law_kept"] [] := T.F_l_heard.bindsN fun _ _ _ _ _ _ us hl => match us, hl with | [_, _, _, _, _], _ => rfl
theorem FX.k_law (T : FX K mg) : PySem.W.keepIn K (.ref (He.ga K "law")) = true := T.F_law.kp
theorem FX.b_law (T : FX K mg) : Binds K (fdAt K ("law", none)) ["_law_script"] [] := T.F_law.bindsN fun _ _ _ _ _ _ us hl => match us, hl with | [_], _ => rfl
theorem kb_Ear_init_0X (T : FX K mg) : ∃ its : List Value, KBn K (fdAt K ("Ear", some "__init__")) ["self", "start", "pairs"] 1 [] (fun us ws => let ds := its; us ++ (ds.drop 0).take 1 ++ (ds.drop 1).take 1) (fun us ws => let ds : List V := [V.int 1, V.non]; us ++ (ds.drop 0).take 1 ++ (ds.drop 1).take 1) :=
  FunD.kbindsD T.F_Ear_init 1 [] (fun {α} (us ds ws : List α) => us ++ (ds.drop 0).take 1 ++ (ds.drop 1).take 1) (fun z => by cases z) (fun h1 h2 h3 => (vals_app (vals_app h1 (vals_pick 0 h2)) (vals_pick 1 h2))) (fun _ _ _ _ _ _ _ us its ws l1 l2 l3 => match us, its, ws, l1, l2, l3 with | [_], [_, _], [], _, _, _ => ⟨_, rfl, rfl⟩)
theorem kb_Ear_init_0_pairs_startX (T : FX K mg) : ∃ its : List Value, KBn K (fdAt K ("Ear", some "__init__")) ["self", "start", "pairs"] 1 ["pairs", "start"] (fun us ws => let ds := its; us ++ (ws.drop 1).take 1 ++ (ws.drop 0).take 1) (fun us ws => let ds : List V := [V.int 1, V.non]; us ++ (ws.drop 1).take 1 ++ (ws.drop 0).take 1) :=
  FunD.kbindsD T.F_Ear_init 1 ["pairs", "start"] (fun {α} (us ds ws : List α) => us ++ (ws.drop 1).take 1 ++ (ws.drop 0).take 1) (fun z => by cases z) (fun h1 h2 h3 => (vals_app (vals_app h1 (vals_pick 1 h3)) (vals_pick 0 h3))) (fun _ _ _ _ _ _ _ us its ws l1 l2 l3 => match us, its, ws, l1, l2, l3 with | [_], [_, _], [_, _], _, _, _ => ⟨_, rfl, rfl⟩)
theorem kb_Ear_init_1X (T : FX K mg) : ∃ its : List Value, KBn K (fdAt K ("Ear", some "__init__")) ["self", "start", "pairs"] 2 [] (fun us ws => let ds := its; us ++ (ds.drop 1).take 1) (fun us ws => let ds : List V := [V.int 1, V.non]; us ++ (ds.drop 1).take 1) :=
  FunD.kbindsD T.F_Ear_init 2 [] (fun {α} (us ds ws : List α) => us ++ (ds.drop 1).take 1) (fun z => by cases z) (fun h1 h2 h3 => (vals_app h1 (vals_pick 1 h2))) (fun _ _ _ _ _ _ _ us its ws l1 l2 l3 => match us, its, ws, l1, l2, l3 with | [_, _], [_, _], [], _, _, _ => ⟨_, rfl, rfl⟩)
theorem kb_Ear_init_2X (T : FX K mg) : ∃ its : List Value, KBn K (fdAt K ("Ear", some "__init__")) ["self", "start", "pairs"] 3 [] (fun us ws => let ds := its; us) (fun us ws => let ds : List V := [V.int 1, V.non]; us) :=
  FunD.kbindsD T.F_Ear_init 3 [] (fun {α} (us ds ws : List α) => us) (fun z => by cases z) (fun h1 h2 h3 => h1) (fun _ _ _ _ _ _ _ us its ws l1 l2 l3 => match us, its, ws, l1, l2, l3 with | [_, _, _], [_, _], [], _, _, _ => ⟨_, rfl, rfl⟩)
end
def fl_Ear (x0 x1 x2 : V) : List (Str × V) := [("behind", x0), ("begun", x1), ("rows", x2)]
section
variable {x0 x1 x2 y : V}
theorem lk_Ear_behind : (fl_Ear x0 x1 x2).lookup ("behind" : Str) = some x0 := by kernel_rfl
theorem pt_Ear_behind : putF "behind" y (fl_Ear x0 x1 x2) = fl_Ear y x1 x2 := by kernel_rfl
theorem lk_Ear_begun : (fl_Ear x0 x1 x2).lookup ("begun" : Str) = some x1 := by kernel_rfl
theorem pt_Ear_begun : putF "begun" y (fl_Ear x0 x1 x2) = fl_Ear x0 y x2 := by kernel_rfl
theorem lk_Ear_rows : (fl_Ear x0 x1 x2).lookup ("rows" : Str) = some x2 := by kernel_rfl
theorem pt_Ear_rows : putF "rows" y (fl_Ear x0 x1 x2) = fl_Ear x0 x1 y := by kernel_rfl
theorem pi_Ear_0 : putF "behind" x0 [] = ([("behind", x0)] : List (Str × V)) := by kernel_rfl
theorem pi_Ear_1 : putF "begun" x1 ([("behind", x0)] : List (Str × V)) = ([("behind", x0), ("begun", x1)] : List (Str × V)) := by kernel_rfl
theorem pi_Ear_2 : putF "rows" x2 ([("behind", x0), ("begun", x1)] : List (Str × V)) = (fl_Ear x0 x1 x2) := by kernel_rfl
theorem lz_Ear : (fl_Ear x0 x1 x2).length < 1000 := by show 3 < 1000; decide
theorem lm_Ear_hear : (fl_Ear x0 x1 x2).lookup ("hear" : Str) = none := by kernel_rfl
theorem lm_Ear_heard : (fl_Ear x0 x1 x2).lookup ("heard" : Str) = none := by kernel_rfl
theorem lm_Ear_state : (fl_Ear x0 x1 x2).lookup ("state" : Str) = none := by kernel_rfl
end
def rc_kept (x0 : V) : List (Key × V) := [(Sum.inr "told", x0)]
section
variable {x0 y : V}
theorem rv_kept_told : valV (rc_kept x0) (Sum.inr "told" : Key) = some x0 := by kernel_rfl
theorem rp_kept_told : putK (rc_kept x0) (Sum.inr "told" : Key) y = rc_kept y := by kernel_rfl
theorem rm_kept : mergeK [] (([(V.str "told", x0)] : List (V × V)).map keyOf) = (rc_kept x0) := by kernel_rfl
theorem rl_kept : (rc_kept x0).length < sizeLine := by show 1 < sizeLine; decide
end
end LW


set_option maxHeartbeats 4000000
namespace LW
open PySem PySem.Spec PyProof.Rows L2
local macro_rules | `(tactic| wtm_at "vk") => `(tactic| first
  | assumption
  | with_reducible exact rv_kept_told
  | exact valV_sv (by assumption)
  | exact valV_iv (by assumption)
  | fail)
local macro_rules | `(tactic| wtm_at "pk") => `(tactic| first
  | with_reducible exact putK_iv
  | with_reducible exact dropK_ik
  | with_reducible exact dropK_sk
  | with_reducible exact rp_kept_told
  | exact putK_sv
  | assumption
  | fail)
local macro_rules | `(tactic| wtm_at "rm") => `(tactic| first
  | with_reducible exact rm_kept
  | exact rfl
  | fail)
local macro_rules | `(tactic| wtm_at "rl") => `(tactic| first
  | with_reducible exact rl_kept
  | with_reducible assumption
  | fail)
local macro_rules | `(tactic| wtm_at "lk") => `(tactic| with_reducible first
  | exact lk_Ear_behind
  | exact lk_Ear_begun
  | exact lk_Ear_rows
  | fail)
local macro_rules | `(tactic| wtm_at "lm") => `(tactic| with_reducible first
  | exact lm_Ear_hear
  | exact lm_Ear_heard
  | exact lm_Ear_state
  | fail)
local macro_rules | `(tactic| wtm_at "pt") => `(tactic| with_reducible first
  | exact pt_Ear_behind
  | exact pt_Ear_begun
  | exact pt_Ear_rows
  | exact pi_Ear_0
  | exact pi_Ear_1
  | exact pi_Ear_2
  | fail)
local macro_rules | `(tactic| wtm_at "lz") => `(tactic| with_reducible first
  | exact lz_Ear
  | (simp only [List.length_cons, List.length_nil]; decide)
  | exact (by decide)
  | fail)
local macro_rules | `(tactic| wtm_at "hf") => `(tactic| first
  | assumption
  | (refine' hf_s ?hs ?hx; (case hs => assumption); (case hx => wtm_at "hf"))
  | (refine' hf_n ?hs ?hx ?ne; (case hs => assumption); (case hx => wtm_at "hf"); (case ne => wtm_at "ne"))
  | (refine' hf_e ?hs ?hx ?hy; (case hs => assumption); (case hx => wtm_at "hf"); (case hy => wtm_at "nin"))
  | fail)
local macro_rules | `(tactic| wtm_at "ne") => `(tactic| first
  | assumption
  | (apply Ne.symm; assumption)
  | (refine' ne_of_none ?hx ?hy; (case hy => assumption); (case hx => wtm_at "hf"))
  | (refine' (ne_of_none ?hx ?hy).symm; (case hy => assumption); (case hx => wtm_at "hf"))
  | (refine' ne_of ?hx ?hy ?hz; (case hx => assumption); (case hy => assumption); (case hz => intro z; cases z))
  | fail)
local macro_rules | `(tactic| wtm_at "nin") => `(tactic| first
  | assumption
  | exact notin_nil
  | (refine' notin_cons ?hx ?hy; (case hx => wtm_at "ne"); (case hy => wtm_at "nin"))
  | fail)
local macro_rules | `(tactic| wtm_at "mem") => `(tactic| first
  | assumption
  | exact List.mem_cons_self
  | (refine' List.mem_cons_of_mem _ ?hx; (case hx => wtm_at "mem"))
  | fail)
local macro_rules | `(tactic| wtm_at "wr") => `(tactic| first
  | exact Or.inr (by assumption)
  | exact Or.inl (by wtm_at "mem")
  | fail)
local macro_rules | `(tactic| wtm_at "lv") => `(tactic| first
  | assumption
  | exact Live.nil
  | (refine' Live.cons ?hx ?hy; (case hx => wtm_at "hf"); (case hy => wtm_at "lv"))
  | fail)
local macro_rules | `(tactic| wtm_at "run") => `(tactic| first
  | assumption
  | (refine' Run.same ?hx ?hy; (case hy => assumption); (case hx => wtm_at "run"))
  | fail)
local macro_rules | `(tactic| wtm_at "sq") => `(tactic| first
  | assumption
  | (refine' Run.seq ?hx ?hy; (case hx => assumption); (case hy => assumption))
  | (refine' SqL.of ?hx; (case hx => wtm_at "hf"))
  | (refine' Same.seq ?hx ?hy; (case hx => assumption); (case hy => wtm_at "sq"))
  | (refine' Ext.seqL ?hx ?hz ?hy; (case hx => assumption); (case hy => wtm_at "sq"); (case hz => wtm_at "nin"))
  | fail)
local macro_rules | `(tactic| wtm_at "st") => `(tactic| first
  | assumption
  | (refine' SqT.of ?hx; (case hx => wtm_at "hf"))
  | fail)
local macro_rules | `(tactic| wtm_at "ix") => `(tactic| first
  | assumption
  | exact rfl
  | fail)
local macro_rules | `(tactic| wtm_at "sz") => `(tactic| first
  | wtm_at "rl"
  | with_reducible assumption
  | (rw [ik_len]; wtm_at "sz")
  | (rw [sk_len]; wtm_at "sz")
  | exact smallM (by assumption)
  | exact smallM (by omega)
  | exact smallM (by simp only [List.length_cons, List.length_nil, List.length_append, List.length_map]; omega)
  | fail)
local macro_rules | `(tactic| wtm_at "tx") => `(tactic| first
  | assumption
  | ((with_reducible refine' Tx.app ?hx ?hy); (case hx => wtm_at "tx"); (case hy => wtm_at "tx"))
  | ((with_reducible refine' Tx.cut ?hx); (case hx => wtm_at "tx"))
  | with_reducible exact Tx.nil
  | fail)
local macro_rules | `(tactic| wtm_at "k") => `(tactic| first
  | with_reducible refine k_seq ?_
  | with_reducible refine k_next ?_
  | with_reducible refine k_asg ?_
  | with_reducible refine k_ret ?_
  | with_reducible refine k_retN ?_
  | with_reducible refine k_drop ?_
  | with_reducible refine k_ifS ?_
  | ((with_reducible refine' k_var ?hx ?_); (case hx => exact rfl))
  | with_reducible refine k_c ?_
  | with_reducible refine k_negc ?_
  | with_reducible refine k_neg ?_
  | with_reducible refine l_neg ?_
  | with_reducible refine k_op ?_
  | with_reducible refine k_cb ?_
  | with_reducible refine k_nil ?_
  | with_reducible refine k_cons ?_
  | with_reducible refine k_test ?_
  | with_reducible refine k_B ?_
  | with_reducible refine k_not ?_
  | with_reducible refine k_and ?_
  | with_reducible refine k_or ?_
  | with_reducible refine k_notV ?_
  | with_reducible refine k_andV ?_
  | with_reducible refine k_orV ?_
  | with_reducible refine k_bl ?_
  | with_reducible refine k_add ?_
  | with_reducible refine k_sub ?_
  | ((with_reducible refine' k_mod ?hx ?_); (case hx => first | decide | omega))
  | ((with_reducible refine' k_div ?hx ?_); (case hx => first | exact ⟨by decide, by decide⟩ | exact ⟨by omega, by omega⟩))
  | ((with_reducible refine' k_mul ?hx ?_); (case hx => first | exact Or.inl ⟨by decide, by decide⟩ | exact Or.inr ⟨by decide, by decide⟩ | exact Or.inl ⟨by omega, by omega⟩))
  | with_reducible refine k_p6 ?_
  | with_reducible refine k_p9 ?_
  | with_reducible refine k_p12 ?_
  | with_reducible refine k_p13 ?_
  | with_reducible refine k_p18 ?_
  | with_reducible refine k_p30 ?_
  | with_reducible refine k_lt ?_
  | with_reducible refine k_le ?_
  | with_reducible refine k_gt ?_
  | with_reducible refine k_ge ?_
  | with_reducible refine k_eq ?_
  | with_reducible refine k_ne ?_
  | with_reducible refine k_seqS ?_
  | with_reducible refine k_neS ?_
  | with_reducible refine k_neB ?_
  | with_reducible refine k_isN ?_
  | with_reducible refine k_noN ?_
  | with_reducible refine k_fld ?_
  | ((with_reducible refine' l_fld ?hx ?hy ?_); (case hx => wtm_at "hf"); (case hy => wtm_at "lk"))
  | with_reducible refine k_fldS ?_
  | ((with_reducible refine' l_fldS ?hr ?hx ?hz ?hy ?hw ?_); (case hr => wtm_at "run"); (case hx => wtm_at "hf"); (case hy => wtm_at "pt"); (case hz => wtm_at "lz"); (case hw => wtm_at "wr"); intro _ _ _ _)
  | ((with_reducible refine' l_new ?hr ?_); (case hr => wtm_at "run"); intro _ _ _ _ _ _ _ _)
  | with_reducible refine k_append ?_
  | ((with_reducible refine' l_tyL ?hx ?_); (case hx => wtm_at "hf"))
  | ((with_reducible refine' l_ins ?hx ?hy ?_); (case hx => wtm_at "hf"); (case hy => wtm_at "lm"))
  | with_reducible refine k_methS ?_
  | with_reducible refine k_methG ?_
  | with_reducible refine k_makeG ?_
  | with_reducible refine k_meth0 ?_
  | with_reducible refine k_callS ?_
  | with_reducible refine k_callE ?_
  | with_reducible refine k_dget ?_
  | with_reducible refine k_din ?_
  | with_reducible refine k_dnotin ?_
  | with_reducible refine k_dput ?_
  | with_reducible refine k_dpop ?_
  | with_reducible refine k_dget2 ?_
  | with_reducible refine k_tup ?_
  | with_reducible refine k_lst ?_
  | with_reducible refine k_dnew ?_
  | ((with_reducible refine' l_tup ?hx ?_); (case hx => simp only [List.length_cons, List.length_nil]; decide))
  | ((with_reducible refine' l_lst ?hx ?_); (case hx => simp only [List.length_cons, List.length_nil]; decide))
  | ((with_reducible refine' l_isD ?hx ?_); (case hx => wtm_at "hf"))
  | ((with_reducible refine' l_dinI ?hx ?_); (case hx => wtm_at "hf"))
  | ((with_reducible refine' l_dinS ?hx ?_); (case hx => wtm_at "hf"))
  | ((with_reducible refine' l_dnotinI ?hx ?_); (case hx => wtm_at "hf"))
  | ((with_reducible refine' l_dnotinS ?hx ?_); (case hx => wtm_at "hf"))
  | ((with_reducible refine' l_dputI ?hr ?hx ?hz ?hy ?hw ?_); (case hr => wtm_at "run"); (case hx => wtm_at "hf"); (case hy => wtm_at "pk"); (case hz => wtm_at "sz"); (case hw => wtm_at "wr"); intro _ _ _ _)
  | ((with_reducible refine' l_dputS ?hr ?hx ?hz ?hy ?hw ?_); (case hr => wtm_at "run"); (case hx => wtm_at "hf"); (case hy => wtm_at "pk"); (case hz => wtm_at "sz"); (case hw => wtm_at "wr"); intro _ _ _ _)
  | ((with_reducible refine' l_dpopI ?hr ?hx ?hz ?hy ?hw ?_); (case hr => wtm_at "run"); (case hx => wtm_at "hf"); (case hy => wtm_at "pk"); (case hz => wtm_at "vk"); (case hw => wtm_at "wr"); intro _ _ _ _)
  | ((with_reducible refine' l_dpopS ?hr ?hx ?hz ?hy ?hw ?_); (case hr => wtm_at "run"); (case hx => wtm_at "hf"); (case hy => wtm_at "pk"); (case hz => wtm_at "vk"); (case hw => wtm_at "wr"); intro _ _ _ _)
  | ((with_reducible refine' l_dgetI ?hx ?hz ?_); (case hx => wtm_at "hf"); (case hz => wtm_at "vk"))
  | ((with_reducible refine' l_dgetS ?hx ?hz ?_); (case hx => wtm_at "hf"); (case hz => wtm_at "vk"))
  | ((with_reducible refine' l_dgetIF ?hx ?hz ?_); (case hx => wtm_at "hf"); (case hz => wtm_at "vk"))
  | ((with_reducible refine' l_dgetSF ?hx ?hz ?_); (case hx => wtm_at "hf"); (case hz => wtm_at "vk"))
  | ((with_reducible refine' k_disp ?hr ?_); (case hr => wtm_at "run"); intro _ _ _ _ _ _ _ _)
  | with_reducible refine k_pcons ?_
  | with_reducible refine k_pnil ?_
  | ((with_reducible refine' l_disp ?hr ?hx ?hu ?hv ?hy ?hw ?_); (case hr => wtm_at "run"); (case hx => wtm_at "hf"); (case hu => exact rfl); (case hv => simp only [List.length_map, List.length_cons, List.length_nil]; decide); (case hy => wtm_at "rm"); (case hw => wtm_at "wr"); intro _ _ _ _)
  | ((with_reducible refine' l_append ?hr ?hx ?hz ?hw ?_); (case hr => wtm_at "run"); (case hx => wtm_at "hf"); (case hz => wtm_at "sz"); (case hw => wtm_at "wr"); intro _ _ _ _)
  | ((with_reducible refine' l_isEt ?hx ?_); (case hx => first | exact isD (ExcK.kit (by assumption) _ (by wtm_at "mem") _ (by wtm_at "mem")) | exact isC (ExcK.kit (by assumption) _ (by wtm_at "mem") _ (by wtm_at "mem")) (by decide)))
  | ((with_reducible refine' l_isEV ?hx ?_); (case hx => exact ExcK.kitV (by assumption) _ (by wtm_at "mem")))
  | ((with_reducible refine' l_isiI ?hx ?_); (case hx => first | rfl | assumption))
  | ((with_reducible refine' l_isiB ?hx ?_); (case hx => first | rfl | assumption))
  | with_reducible refine l_isiSS ?_
  | ((with_reducible refine' l_isiS ?hx ?_); (case hx => first | rfl | assumption))
  | ((with_reducible refine' l_isiL ?hx ?_); (case hx => wtm_at "hf"))
  | ((with_reducible refine' l_isiT ?hx ?_); (case hx => wtm_at "hf"))
  | ((with_reducible refine' l_lenL ?hx ?_); (case hx => wtm_at "sq"))
  | ((with_reducible refine' l_lenT ?hx ?_); (case hx => wtm_at "st"))
  | ((with_reducible refine' l_ixL ?hx ?hy ?_); (case hx => wtm_at "sq"); (case hy => wtm_at "ix"))
  | ((with_reducible refine' l_ixT ?hx ?hy ?_); (case hx => wtm_at "st"); (case hy => wtm_at "ix"))
  | with_reducible refine k_m1 ?_
  | with_reducible refine l_strX ?_
  | with_reducible refine l_sw ?_
  | ((with_reducible refine' x_addS ?hx ?hy ?hz ?_); (case hx => wtm_at "tx"); (case hy => wtm_at "tx"); (case hz => decide))
  | ((with_reducible refine' x_slS ?hx ?hz ?_); (case hx => wtm_at "tx"); (case hz => decide))
  | ((with_reducible refine' x_lenX ?hx ?hz ?_); (case hx => wtm_at "tx"); (case hz => decide))
  | with_reducible refine l_max ?_
  | with_reducible refine l_min ?_
  | with_reducible refine l_abs ?_
  | with_reducible refine k_sl ?_
  | with_reducible refine k_part ?_
  | with_reducible refine l_part ?_
  | with_reducible refine k_nopart ?_
  | with_reducible refine k_yes ?_
  | ((with_reducible refine' l_slL ?hr ?hx ?_); (case hr => wtm_at "run"); (case hx => wtm_at "sq"); intro _ _ _ _ _ _ _ _)
  | with_reducible refine k_lcL ?_
  | with_reducible refine k_lcR ?_
  | with_reducible refine k_for ?_
  | with_reducible refine k_rng1 ?_
  | with_reducible refine k_rng2 ?_
  | with_reducible refine k_rng3 ?_
  | with_reducible refine k_makeS ?_
  | ((with_reducible refine' l_make ?hr ?_); (case hr => wtm_at "run"); intro _ _ _ _ _ _ _ _ _)
  | with_reducible refine k_ntt ?_
  | with_reducible refine k_ntf ?_
  | with_reducible refine k_clear ?_
  | ((with_reducible refine' l_clear ?hr ?hx ?hw ?_); (case hr => wtm_at "run"); (case hx => wtm_at "hf"); (case hw => wtm_at "wr"); intro _ _ _ _)
  | with_reducible refine k_ift ?_
  | with_reducible refine k_iff ?_
  | with_reducible refine g_name ?_
  | with_reducible refine k_revL ?_
  | ((with_reducible refine' l_tupL ?hx ?_); (case hx => wtm_at "sq"))
  | with_reducible refine l_intB ?_
  | ((with_reducible refine' l_rev ?hx ?_); (case hx => wtm_at "sq"))
  | ((with_reducible refine' l_gT2 ?hn ?hx ?_); (case hn => exact rfl); (case hx => wtm_at "st"))
  | ((with_reducible refine' l_listL ?hx ?_); (case hx => wtm_at "sq"))
  | ((with_reducible refine' l_listT ?hx ?_); (case hx => wtm_at "st"))
  | fail)
section
variable {P : Program} {w : World} {K : PySem.W.Frag} {mg : Str → Option Value} {base : Heap}
def sp_l_whole (K : PySem.W.Frag) : Sp := fun vs H Q _ => ∃ v, vs = [v] ∧ simpV v = true ∧ Q (.bl (isI v)) H
theorem sc_l_whole : FnScope ["_law_found"] ["_law_found"] (defScope s_l_whole) := ⟨rfl, rfl, rfl, by decide +kernel, rfl, by decide +kernel, by decide +kernel⟩
theorem ok_l_whole (T : FX K mg) : FnOk P w K mg base (L2N.CX P w) 1 (He.ga K "_law_whole") (fdAt K ("_law_whole", none)) ["_law_found"] (sp_l_whole K) := by
  refine FunD.ok T.F_l_whole sc_l_whole (fun vs H Q E h => ?_) (fun cdv A outer s H vs Q E hr h => ?_)
  · (repeat (obtain ⟨_, h⟩ := h)); subst_vars; rfl
  · have hu := hu_of hr
    have hu64 := hr.units
    refine ⟨_,
      (pss_one
        (ps_ret (pe_and (pe_callB call_isi (by rfl) T.f_isinstance (by decide +kernel) (pa_cons (pv 0) (pa_cons (pe_bltT (n := "int") rfl T.f_int (by decide +kernel)) pa_nil))) (pe_one (pe_not (pe_callB call_isi (by rfl) T.f_isinstance (by decide +kernel) (pa_cons (pv 0) (pa_cons (pe_bltT (n := "bool") rfl T.f_bool (by decide +kernel)) pa_nil)))))))), ?_⟩
    obtain ⟨v, rfl, hv, k⟩ := h
    repeat wtm_at "k"
    cases v with
    | int i =>
      refine k_ift ?_
      repeat wtm_at "k"
      exact k
    | bl b =>
      refine k_ift ?_
      repeat wtm_at "k"
      exact k
    | non => exact k_iff k
    | str x => exact k_iff k
    | _ => cases hv
/-- script[k], or 0 -/
def cellD (ns : List Int) (k : Int) : Int := ns.getD k.toNat 0
def sp_l_cell_at (K : PySem.W.Frag) : Sp := fun vs H Q _ => ∃ a ns k, vs = [.ref a, .int k] ∧ 0 ≤ k ∧ SqL K H a (ns.map V.int) ∧ Q (.int (cellD ns k)) H
theorem sc_l_cell_at : FnScope ["_law_script", "_law_k"] ["_law_script", "_law_k"] (defScope s_l_cell_at) := ⟨rfl, rfl, rfl, by decide +kernel, rfl, by decide +kernel, by decide +kernel⟩
theorem ok_l_cell_at (T : FX K mg) : FnOk P w K mg base (L2N.CX P w) 1 (He.ga K "_law_cell_at") (fdAt K ("_law_cell_at", none)) ["_law_script", "_law_k"] (sp_l_cell_at K) := by
  refine FunD.ok T.F_l_cell_at sc_l_cell_at (fun vs H Q E h => ?_) (fun cdv A outer s H vs Q E hr h => ?_)
  · (repeat (obtain ⟨_, h⟩ := h)); subst_vars; rfl
  · have hu := hu_of hr
    have hu64 := hr.units
    refine ⟨_,
      (pss_cons
        (ps_if (pt_cmpR oIlt (pv 1) (pe_callB oLen (by rfl) T.f_len PySem.boot_len (pa_cons (pv 0) pa_nil)) (nomark _))
          (pss_one
            (ps_ret (pe_ix ix_list (pv 0) (pv 1) (fun _ _ => rfl))))
          pss_nil)
      (pss_one
        (ps_ret pe_int))), ?_⟩
    obtain ⟨a, ns, k, rfl, h0, hS, kk⟩ := h
    repeat wtm_at "k"
    rw [List.length_map]
    refine k_ifd (fun c => ?_) fun c => ?_
    · repeat wtm_at "k"
      refine l_ixL hS (atI_map (d := 0) (by omega) c) ?_
      exact kk
    · have e : cellD ns k = 0 := by
        unfold cellD
        rw [List.getD_eq_getElem?_getD, List.getElem?_eq_none (by omega)]
        rfl
      repeat wtm_at "k"
      rw [e] at kk
      exact kk
theorem k_whole {H : Hp} {Q : VK} {E : XK} {v : V} (h : simpV v = true) (q : Q (.bl (isI v)) H) : sp_l_whole K [v] H Q E := ⟨v, rfl, h, q⟩
theorem k_wholeI {H : Hp} {Q : VK} {E : XK} {i : Int} (q : Q (.bl true) H) : sp_l_whole K [.int i] H Q E := ⟨.int i, rfl, rfl, q⟩
theorem k_cell {H : Hp} {Q : VK} {E : XK} {a : Addr} {ns : List Int} {k : Int} (h0 : 0 ≤ k) (hS : SqL K H a (ns.map V.int)) (q : Q (.int (cellD ns k)) H) : sp_l_cell_at K [.ref a, .int k] H Q E := ⟨a, ns, k, rfl, h0, hS, q⟩
end
end LW

set_option maxHeartbeats 4000000
namespace LW
open PySem PySem.Spec PyProof.Rows L2
local macro_rules | `(tactic| wtm_at "vk") => `(tactic| first
  | assumption
  | with_reducible exact rv_kept_told
  | exact valV_sv (by assumption)
  | exact valV_iv (by assumption)
  | fail)
local macro_rules | `(tactic| wtm_at "pk") => `(tactic| first
  | with_reducible exact putK_iv
  | with_reducible exact dropK_ik
  | with_reducible exact dropK_sk
  | with_reducible exact rp_kept_told
  | exact putK_sv
  | assumption
  | fail)
local macro_rules | `(tactic| wtm_at "rm") => `(tactic| first
  | with_reducible exact rm_kept
  | exact rfl
  | fail)
local macro_rules | `(tactic| wtm_at "rl") => `(tactic| first
  | with_reducible exact rl_kept
  | with_reducible assumption
  | fail)
local macro_rules | `(tactic| wtm_at "lk") => `(tactic| with_reducible first
  | exact lk_Ear_behind
  | exact lk_Ear_begun
  | exact lk_Ear_rows
  | fail)
local macro_rules | `(tactic| wtm_at "lm") => `(tactic| with_reducible first
  | exact lm_Ear_hear
  | exact lm_Ear_heard
  | exact lm_Ear_state
  | fail)
local macro_rules | `(tactic| wtm_at "pt") => `(tactic| with_reducible first
  | exact pt_Ear_behind
  | exact pt_Ear_begun
  | exact pt_Ear_rows
  | exact pi_Ear_0
  | exact pi_Ear_1
  | exact pi_Ear_2
  | fail)
local macro_rules | `(tactic| wtm_at "lz") => `(tactic| with_reducible first
  | exact lz_Ear
  | (simp only [List.length_cons, List.length_nil]; decide)
  | exact (by decide)
  | fail)
local macro_rules | `(tactic| wtm_at "hf") => `(tactic| first
  | assumption
  | (refine' hf_s ?hs ?hx; (case hs => assumption); (case hx => wtm_at "hf"))
  | (refine' hf_n ?hs ?hx ?ne; (case hs => assumption); (case hx => wtm_at "hf"); (case ne => wtm_at "ne"))
  | (refine' hf_e ?hs ?hx ?hy; (case hs => assumption); (case hx => wtm_at "hf"); (case hy => wtm_at "nin"))
  | fail)
local macro_rules | `(tactic| wtm_at "ne") => `(tactic| first
  | assumption
  | (apply Ne.symm; assumption)
  | (refine' ne_of_none ?hx ?hy; (case hy => assumption); (case hx => wtm_at "hf"))
  | (refine' (ne_of_none ?hx ?hy).symm; (case hy => assumption); (case hx => wtm_at "hf"))
  | (refine' ne_of ?hx ?hy ?hz; (case hx => assumption); (case hy => assumption); (case hz => intro z; cases z))
  | fail)
local macro_rules | `(tactic| wtm_at "nin") => `(tactic| first
  | assumption
  | exact notin_nil
  | (refine' notin_cons ?hx ?hy; (case hx => wtm_at "ne"); (case hy => wtm_at "nin"))
  | fail)
local macro_rules | `(tactic| wtm_at "mem") => `(tactic| first
  | assumption
  | exact List.mem_cons_self
  | (refine' List.mem_cons_of_mem _ ?hx; (case hx => wtm_at "mem"))
  | fail)
local macro_rules | `(tactic| wtm_at "wr") => `(tactic| first
  | exact Or.inr (by assumption)
  | exact Or.inl (by wtm_at "mem")
  | fail)
local macro_rules | `(tactic| wtm_at "lv") => `(tactic| first
  | assumption
  | exact Live.nil
  | (refine' Live.cons ?hx ?hy; (case hx => wtm_at "hf"); (case hy => wtm_at "lv"))
  | fail)
local macro_rules | `(tactic| wtm_at "run") => `(tactic| first
  | assumption
  | (refine' Run.same ?hx ?hy; (case hy => assumption); (case hx => wtm_at "run"))
  | fail)
local macro_rules | `(tactic| wtm_at "sq") => `(tactic| first
  | assumption
  | (refine' Run.seq ?hx ?hy; (case hx => assumption); (case hy => assumption))
  | (refine' SqL.of ?hx; (case hx => wtm_at "hf"))
  | (refine' Same.seq ?hx ?hy; (case hx => assumption); (case hy => wtm_at "sq"))
  | (refine' Ext.seqL ?hx ?hz ?hy; (case hx => assumption); (case hy => wtm_at "sq"); (case hz => wtm_at "nin"))
  | fail)
local macro_rules | `(tactic| wtm_at "st") => `(tactic| first
  | assumption
  | (refine' SqT.of ?hx; (case hx => wtm_at "hf"))
  | fail)
local macro_rules | `(tactic| wtm_at "ix") => `(tactic| first
  | assumption
  | exact rfl
  | fail)
local macro_rules | `(tactic| wtm_at "sz") => `(tactic| first
  | wtm_at "rl"
  | with_reducible assumption
  | (rw [ik_len]; wtm_at "sz")
  | (rw [sk_len]; wtm_at "sz")
  | exact smallM (by assumption)
  | exact smallM (by omega)
  | exact smallM (by simp only [List.length_cons, List.length_nil, List.length_append, List.length_map]; omega)
  | fail)
local macro_rules | `(tactic| wtm_at "tx") => `(tactic| first
  | assumption
  | ((with_reducible refine' Tx.app ?hx ?hy); (case hx => wtm_at "tx"); (case hy => wtm_at "tx"))
  | ((with_reducible refine' Tx.cut ?hx); (case hx => wtm_at "tx"))
  | with_reducible exact Tx.nil
  | fail)
local macro_rules | `(tactic| wtm_at "k") => `(tactic| first
  | with_reducible refine k_seq ?_
  | with_reducible refine k_next ?_
  | with_reducible refine k_asg ?_
  | with_reducible refine k_ret ?_
  | with_reducible refine k_retN ?_
  | with_reducible refine k_drop ?_
  | with_reducible refine k_ifS ?_
  | ((with_reducible refine' k_var ?hx ?_); (case hx => exact rfl))
  | with_reducible refine k_c ?_
  | with_reducible refine k_negc ?_
  | with_reducible refine k_neg ?_
  | with_reducible refine l_neg ?_
  | with_reducible refine k_op ?_
  | with_reducible refine k_cb ?_
  | with_reducible refine k_nil ?_
  | with_reducible refine k_cons ?_
  | with_reducible refine k_test ?_
  | with_reducible refine k_B ?_
  | with_reducible refine k_not ?_
  | with_reducible refine k_and ?_
  | with_reducible refine k_or ?_
  | with_reducible refine k_notV ?_
  | with_reducible refine k_andV ?_
  | with_reducible refine k_orV ?_
  | with_reducible refine k_bl ?_
  | with_reducible refine k_add ?_
  | with_reducible refine k_sub ?_
  | ((with_reducible refine' k_mod ?hx ?_); (case hx => first | decide | omega))
  | ((with_reducible refine' k_div ?hx ?_); (case hx => first | exact ⟨by decide, by decide⟩ | exact ⟨by omega, by omega⟩))
  | ((with_reducible refine' k_mul ?hx ?_); (case hx => first | exact Or.inl ⟨by decide, by decide⟩ | exact Or.inr ⟨by decide, by decide⟩ | exact Or.inl ⟨by omega, by omega⟩))
  | with_reducible refine k_p6 ?_
  | with_reducible refine k_p9 ?_
  | with_reducible refine k_p12 ?_
  | with_reducible refine k_p13 ?_
  | with_reducible refine k_p18 ?_
  | with_reducible refine k_p30 ?_
  | with_reducible refine k_lt ?_
  | with_reducible refine k_le ?_
  | with_reducible refine k_gt ?_
  | with_reducible refine k_ge ?_
  | with_reducible refine k_eq ?_
  | with_reducible refine k_ne ?_
  | with_reducible refine k_seqS ?_
  | with_reducible refine k_neS ?_
  | with_reducible refine k_neB ?_
  | with_reducible refine k_isN ?_
  | with_reducible refine k_noN ?_
  | with_reducible refine k_fld ?_
  | ((with_reducible refine' l_fld ?hx ?hy ?_); (case hx => wtm_at "hf"); (case hy => wtm_at "lk"))
  | with_reducible refine k_fldS ?_
  | ((with_reducible refine' l_fldS ?hr ?hx ?hz ?hy ?hw ?_); (case hr => wtm_at "run"); (case hx => wtm_at "hf"); (case hy => wtm_at "pt"); (case hz => wtm_at "lz"); (case hw => wtm_at "wr"); intro _ _ _ _)
  | ((with_reducible refine' l_new ?hr ?_); (case hr => wtm_at "run"); intro _ _ _ _ _ _ _ _)
  | with_reducible refine k_append ?_
  | ((with_reducible refine' l_tyL ?hx ?_); (case hx => wtm_at "hf"))
  | ((with_reducible refine' l_ins ?hx ?hy ?_); (case hx => wtm_at "hf"); (case hy => wtm_at "lm"))
  | with_reducible refine k_methS ?_
  | with_reducible refine k_methG ?_
  | with_reducible refine k_makeG ?_
  | with_reducible refine k_meth0 ?_
  | with_reducible refine k_callS ?_
  | with_reducible refine k_callE ?_
  | with_reducible refine k_dget ?_
  | with_reducible refine k_din ?_
  | with_reducible refine k_dnotin ?_
  | with_reducible refine k_dput ?_
  | with_reducible refine k_dpop ?_
  | with_reducible refine k_dget2 ?_
  | with_reducible refine k_tup ?_
  | with_reducible refine k_lst ?_
  | with_reducible refine k_dnew ?_
  | ((with_reducible refine' l_tup ?hx ?_); (case hx => simp only [List.length_cons, List.length_nil]; decide))
  | ((with_reducible refine' l_lst ?hx ?_); (case hx => simp only [List.length_cons, List.length_nil]; decide))
  | ((with_reducible refine' l_isD ?hx ?_); (case hx => wtm_at "hf"))
  | ((with_reducible refine' l_dinI ?hx ?_); (case hx => wtm_at "hf"))
  | ((with_reducible refine' l_dinS ?hx ?_); (case hx => wtm_at "hf"))
  | ((with_reducible refine' l_dnotinI ?hx ?_); (case hx => wtm_at "hf"))
  | ((with_reducible refine' l_dnotinS ?hx ?_); (case hx => wtm_at "hf"))
  | ((with_reducible refine' l_dputI ?hr ?hx ?hz ?hy ?hw ?_); (case hr => wtm_at "run"); (case hx => wtm_at "hf"); (case hy => wtm_at "pk"); (case hz => wtm_at "sz"); (case hw => wtm_at "wr"); intro _ _ _ _)
  | ((with_reducible refine' l_dputS ?hr ?hx ?hz ?hy ?hw ?_); (case hr => wtm_at "run"); (case hx => wtm_at "hf"); (case hy => wtm_at "pk"); (case hz => wtm_at "sz"); (case hw => wtm_at "wr"); intro _ _ _ _)
  | ((with_reducible refine' l_dpopI ?hr ?hx ?hz ?hy ?hw ?_); (case hr => wtm_at "run"); (case hx => wtm_at "hf"); (case hy => wtm_at "pk"); (case hz => wtm_at "vk"); (case hw => wtm_at "wr"); intro _ _ _ _)
  | ((with_reducible refine' l_dpopS ?hr ?hx ?hz ?hy ?hw ?_); (case hr => wtm_at "run"); (case hx => wtm_at "hf"); (case hy => wtm_at "pk"); (case hz => wtm_at "vk"); (case hw => wtm_at "wr"); intro _ _ _ _)
  | ((with_reducible refine' l_dgetI ?hx ?hz ?_); (case hx => wtm_at "hf"); (case hz => wtm_at "vk"))
  | ((with_reducible refine' l_dgetS ?hx ?hz ?_); (case hx => wtm_at "hf"); (case hz => wtm_at "vk"))
  | ((with_reducible refine' l_dgetIF ?hx ?hz ?_); (case hx => wtm_at "hf"); (case hz => wtm_at "vk"))
  | ((with_reducible refine' l_dgetSF ?hx ?hz ?_); (case hx => wtm_at "hf"); (case hz => wtm_at "vk"))
  | ((with_reducible refine' k_disp ?hr ?_); (case hr => wtm_at "run"); intro _ _ _ _ _ _ _ _)
  | with_reducible refine k_pcons ?_
  | with_reducible refine k_pnil ?_
  | ((with_reducible refine' l_disp ?hr ?hx ?hu ?hv ?hy ?hw ?_); (case hr => wtm_at "run"); (case hx => wtm_at "hf"); (case hu => exact rfl); (case hv => simp only [List.length_map, List.length_cons, List.length_nil]; decide); (case hy => wtm_at "rm"); (case hw => wtm_at "wr"); intro _ _ _ _)
  | ((with_reducible refine' l_append ?hr ?hx ?hz ?hw ?_); (case hr => wtm_at "run"); (case hx => wtm_at "hf"); (case hz => wtm_at "sz"); (case hw => wtm_at "wr"); intro _ _ _ _)
  | ((with_reducible refine' l_isEt ?hx ?_); (case hx => first | exact isD (ExcK.kit (by assumption) _ (by wtm_at "mem") _ (by wtm_at "mem")) | exact isC (ExcK.kit (by assumption) _ (by wtm_at "mem") _ (by wtm_at "mem")) (by decide)))
  | ((with_reducible refine' l_isEV ?hx ?_); (case hx => exact ExcK.kitV (by assumption) _ (by wtm_at "mem")))
  | ((with_reducible refine' l_isiI ?hx ?_); (case hx => first | rfl | assumption))
  | ((with_reducible refine' l_isiB ?hx ?_); (case hx => first | rfl | assumption))
  | with_reducible refine l_isiSS ?_
  | ((with_reducible refine' l_isiS ?hx ?_); (case hx => first | rfl | assumption))
  | ((with_reducible refine' l_isiL ?hx ?_); (case hx => wtm_at "hf"))
  | ((with_reducible refine' l_isiT ?hx ?_); (case hx => wtm_at "hf"))
  | ((with_reducible refine' l_lenL ?hx ?_); (case hx => wtm_at "sq"))
  | ((with_reducible refine' l_lenT ?hx ?_); (case hx => wtm_at "st"))
  | ((with_reducible refine' l_ixL ?hx ?hy ?_); (case hx => wtm_at "sq"); (case hy => wtm_at "ix"))
  | ((with_reducible refine' l_ixT ?hx ?hy ?_); (case hx => wtm_at "st"); (case hy => wtm_at "ix"))
  | with_reducible refine k_m1 ?_
  | with_reducible refine l_strX ?_
  | with_reducible refine l_sw ?_
  | ((with_reducible refine' x_addS ?hx ?hy ?hz ?_); (case hx => wtm_at "tx"); (case hy => wtm_at "tx"); (case hz => decide))
  | ((with_reducible refine' x_slS ?hx ?hz ?_); (case hx => wtm_at "tx"); (case hz => decide))
  | ((with_reducible refine' x_lenX ?hx ?hz ?_); (case hx => wtm_at "tx"); (case hz => decide))
  | with_reducible refine l_max ?_
  | with_reducible refine l_min ?_
  | with_reducible refine l_abs ?_
  | with_reducible refine k_sl ?_
  | with_reducible refine k_part ?_
  | with_reducible refine l_part ?_
  | with_reducible refine k_nopart ?_
  | with_reducible refine k_yes ?_
  | ((with_reducible refine' l_slL ?hr ?hx ?_); (case hr => wtm_at "run"); (case hx => wtm_at "sq"); intro _ _ _ _ _ _ _ _)
  | with_reducible refine k_lcL ?_
  | with_reducible refine k_lcR ?_
  | with_reducible refine k_for ?_
  | with_reducible refine k_rng1 ?_
  | with_reducible refine k_rng2 ?_
  | with_reducible refine k_rng3 ?_
  | with_reducible refine k_makeS ?_
  | ((with_reducible refine' l_make ?hr ?_); (case hr => wtm_at "run"); intro _ _ _ _ _ _ _ _ _)
  | with_reducible refine k_ntt ?_
  | with_reducible refine k_ntf ?_
  | with_reducible refine k_clear ?_
  | ((with_reducible refine' l_clear ?hr ?hx ?hw ?_); (case hr => wtm_at "run"); (case hx => wtm_at "hf"); (case hw => wtm_at "wr"); intro _ _ _ _)
  | with_reducible refine k_ift ?_
  | with_reducible refine k_iff ?_
  | with_reducible refine g_name ?_
  | with_reducible refine k_revL ?_
  | ((with_reducible refine' l_tupL ?hx ?_); (case hx => wtm_at "sq"))
  | with_reducible refine l_intB ?_
  | ((with_reducible refine' l_rev ?hx ?_); (case hx => wtm_at "sq"))
  | ((with_reducible refine' l_gT2 ?hn ?hx ?_); (case hn => exact rfl); (case hx => wtm_at "st"))
  | ((with_reducible refine' l_listL ?hx ?_); (case hx => wtm_at "sq"))
  | ((with_reducible refine' l_listT ?hx ?_); (case hx => wtm_at "st"))
  | fail)
/-! ### the ear -/
theorem pt_Ear_part {x0 x1 y : V} : putF "begun" y ([("behind", x0), ("begun", x1)] : List (Str × V)) = ([("behind", x0), ("begun", y)] : List (Str × V)) := by kernel_rfl
local macro_rules | `(tactic| wtm_at "pt") => `(tactic| with_reducible exact pt_Ear_part)
structure EarS where
  behind : Int
  begun : List SS
  rows : List Row
def EarS.step (E : EarS) (r : Row) : EarS := if E.behind < r.n then ⟨r.n, E.begun, E.rows ++ [r]⟩ else E
def EarS.hear (E : EarS) (rs : List Row) : EarS := rs.foldl EarS.step E
/-- what stands, by what was there at first and what came -/
def stEv (l : List (Str × Str)) (r : Row) : List (Str × Str) := if r.w = "put" then aput l r.k r.v else adrop l r.k
def stBeg (b : List SS) : List (Str × Str) := b.foldl (fun l p => aput l p.k p.v) []
def stAll (b : List SS) (rows : List Row) : List (Str × Str) := rows.foldl stEv (stBeg b)
theorem stBeg_tx {b : List SS} : ∀ {l : List (Str × Str)}, PTx l → PTx (b.foldl (fun l p => aput l p.k p.v) l) := by
  induction b with
  | nil => exact fun h => h
  | cons p b ih => exact fun h => ih (h.put p.ok p.ov)
theorem stEv_tx {l : List (Str × Str)} (h : PTx l) (r : Row) : PTx (stEv l r) := by
  unfold stEv
  split
  · exact h.put r.ok r.ov
  · exact h.drop
theorem stAll_tx {b : List SS} {rows : List Row} : PTx (stAll b rows) := by
  have : ∀ (rows : List Row) (l : List (Str × Str)), PTx l → PTx (rows.foldl stEv l) := by
    intro rows
    induction rows with
    | nil => exact fun l h => h
    | cons r rows ih => exact fun l h => ih _ (stEv_tx h r)
  exact this rows _ (stBeg_tx fun _ z => by cases z)
def EarAt (K : PySem.W.Frag) (H : Hp) (p : Addr) (F : List Addr) (E : EarS) : Prop :=
  ∃ pb pr dx bs ys, F = [p, pb, pr] ∧ H p = some (.ins (He.ga K "Ear") dx (fl_Ear (.int E.behind) (.ref pb) (.ref pr))) ∧ H pb = some (.lst bs) ∧ H pr = some (.lst ys) ∧ Paired (IsS H) bs E.begun ∧ Paired (IsR H) ys E.rows ∧ pb ≠ pr
theorem EarAt.ext {K : PySem.W.Frag} {H H' : Hp} {p : Addr} {F G : List Addr} {E : EarS} (a : EarAt K H p F E) (e : Ext G H H') (h : Apart F G) : EarAt K H' p F E := by
  obtain ⟨pb, pr, dx, bs, ys, rfl, h1, h2, h3, h4, h5, n⟩ := a
  exact ⟨pb, pr, dx, bs, ys, rfl, e.keep _ _ h1 (h _ (by simp)), e.keep _ _ h2 (h _ (by simp)), e.keep _ _ h3 (h _ (by simp)), keepT e.tups h4, keepT e.tups h5, n⟩
theorem EarAt.live {K : PySem.W.Frag} {H : Hp} {p : Addr} {F : List Addr} {E : EarS} (a : EarAt K H p F E) : Live H F := by
  obtain ⟨pb, pr, dx, bs, ys, rfl, h1, h2, h3, h4, h5, n⟩ := a
  exact Live.cons h1 (Live.cons h2 (Live.cons h3 Live.nil))
/-- pairs handed in: None, or a list or a tuple of them -/
def PairsOf (K : PySem.W.Frag) (H : Hp) (v : V) (b : List SS) : Prop := (v = .non ∧ b = []) ∨ ∃ a xs, v = .ref a ∧ (SqL K H a xs ∨ SqT K H a xs) ∧ Paired (IsS H) xs b
def sp_Ear_init (K : PySem.W.Frag) : Sp := fun vs H Q _ => ∃ p dx start v b, vs = [.ref p, .int start, v] ∧ H p = some (.ins (He.ga K "Ear") dx []) ∧ PairsOf K H v b ∧
  ∀ H' F, EarAt K H' p F ⟨start - 1, b, []⟩ → Grow H [p] F → Ext [p] H H' → Q .non H'
section
variable {P : Program} {w : World} {K : PySem.W.Frag} {mg : Str → Option Value} {base : Heap}
theorem sc_Ear_init : FnScope ["self", "start", "pairs"] ["self", "start", "pairs"] (defScope s_Ear_init) := ⟨rfl, rfl, rfl, by decide +kernel, rfl, by decide +kernel, by decide +kernel⟩
theorem ok_Ear_init (T : FX K mg) : FnOk P w K mg base (L2N.CX P w) 1 (He.ma K (He.ga K "Ear") "__init__") (fdAt K ("Ear", some "__init__")) ["self", "start", "pairs"] (sp_Ear_init K) := by
  refine FunD.ok T.F_Ear_init sc_Ear_init (fun vs H Q E h => ?_) (fun cdv A outer s H vs Q E hr h => ?_)
  · (repeat (obtain ⟨_, h⟩ := h)); subst_vars; rfl
  · have hu := hu_of hr
    have hu64 := hr.units
    refine ⟨_,
      (pss_cons
        (ps_fldC T.cl_Ear T.na_Ear_behind (pv 0) (pe_op oIsub (pv 1) pe_int))
      (pss_cons
        (ps_fldC T.cl_Ear T.na_Ear_begun (pv 0) (pe_lst pa_nil))
      (pss_cons
        (ps_if (pt_cmpR oNno (pv 2) pe_non (nomark _))
          (pss_one
            (ps_fldC T.cl_Ear T.na_Ear_begun (pv 0) (pe_callTy oList (by rfl) T.f_list boot_list (pa_cons (pv 2) pa_nil))))
          pss_nil)
      (pss_one
        (ps_fldC T.cl_Ear T.na_Ear_rows (pv 0) (pe_lst pa_nil)))))), ?_⟩
    obtain ⟨p, dx, start, v, b, rfl, hp, hv, k⟩ := h
    have R0 : Run [p] H H := Run.start (by wtm_at "lv")
    repeat wtm_at "k"
    rename_i H1 r1 g1 n1 pb H2 f1 f2 f3 r2 g2 s2 H3 r3 g3 n3
    refine k_fork (fun σ' H' => σ' = [some (.ref p), some (.int start), some v] ∧ Run [p] H H' ∧ ∃ pb bs, H pb = none ∧ H' p = some (.ins (He.ga K "Ear") dx ([("behind", .int (start - 1)), ("begun", .ref pb)] : List (Str × V))) ∧ H' pb = some (.lst bs) ∧ Paired (IsS H') bs b) (fun nx' ky => ?_) ?_
    · rcases hv with ⟨rfl, rfl⟩ | ⟨a, xs, rfl, hq, hx⟩
      · refine k_ifnd (fun c => absurd rfl c) fun _ => ?_
        exact k_next (ky _ _ ⟨rfl, r3, pb, [], f1, g3, by wtm_at "hf", .nil⟩)
      · refine k_ifnd (fun _ => ?_) fun c => by cases c
        have hx3 := keepT (fun a xs h => by wtm_at "hf") hx
        rcases hq with hq | hq
        · have hq3 : SqL K H3 a xs := by
            rcases hq with (hq | ⟨o, hq⟩) | hq
            · exact .inl (.inl (by wtm_at "hf"))
            · exact .inl (.inr ⟨o, by wtm_at "hf"⟩)
            · exact .inr hq
          clear hq
          repeat wtm_at "k"
          rename_i l H4 u1 u2 u3 r4 g4 s4 H5 r5 g5 n5
          exact ky _ _ ⟨rfl, r5, l, xs, u1, g5, by wtm_at "hf", keepT (fun a xs h => by wtm_at "hf") hx3⟩
        · have hq3 : SqT K H3 a xs := by
            rcases hq with (hq | ⟨o, hq⟩) | hq
            · exact .inl (.inl (by wtm_at "hf"))
            · exact .inl (.inr ⟨o, by wtm_at "hf"⟩)
            · exact .inr hq
          clear hq
          repeat wtm_at "k"
          rename_i l H4 u1 u2 u3 r4 g4 s4 H5 r5 g5 n5
          exact ky _ _ ⟨rfl, r5, l, xs, u1, g5, by wtm_at "hf", keepT (fun a xs h => by wtm_at "hf") hx3⟩
    · rintro _ H4 ⟨rfl, r4, pb, bs, fb, g4, h4, hb⟩
      repeat wtm_at "k"
      rename_i pr H5 u1 u2 u3 r5 g5 s5 H6 r6 g6 n6
      refine k H6 [p, pb, pr] ⟨pb, pr, dx, bs, [], rfl, g6, by wtm_at "hf", by wtm_at "hf", keepT (fun a xs h => by wtm_at "hf") hb, .nil, by wtm_at "ne"⟩ ?_ r6.ext
      intro c hc; simp only [List.mem_cons, List.not_mem_nil, or_false] at hc; rcases hc with rfl | rfl | rfl <;> simp [*]
def sp_Ear_heard (K : PySem.W.Frag) : Sp := fun vs H Q _ => ∃ p F E, vs = [.ref p] ∧ EarAt K H p F E ∧ ∀ l H' ys, H l = none → Ext [] H H' → H' l = some (.lst ys) → Paired (IsR H') ys E.rows → Q (.ref l) H'
theorem sc_Ear_heard : FnScope ["self"] ["self"] (defScope s_Ear_heard) := ⟨rfl, rfl, rfl, by decide +kernel, rfl, by decide +kernel, by decide +kernel⟩
theorem ok_Ear_heard (T : FX K mg) : FnOk P w K mg base (L2N.CX P w) 1 (He.ma K (He.ga K "Ear") "heard") (fdAt K ("Ear", some "heard")) ["self"] (sp_Ear_heard K) := by
  refine FunD.ok T.F_Ear_heard sc_Ear_heard (fun vs H Q E h => ?_) (fun cdv A outer s H vs Q E hr h => ?_)
  · (repeat (obtain ⟨_, h⟩ := h)); subst_vars; rfl
  · have hu := hu_of hr
    have hu64 := hr.units
    refine ⟨_,
      (pss_one
        (ps_ret (pe_callTy oList (by rfl) T.f_list boot_list (pa_cons (pe_fldC T.cl_Ear T.na_Ear_rows (pv 0)) pa_nil)))), ?_⟩
    obtain ⟨p, F, E, rfl, ⟨pb, pr, dx, bs, ys, rfl, h1, h2, h3, h4, h5, n⟩, k⟩ := h
    have R0 : Run [] H H := Run.start Live.nil
    repeat wtm_at "k"
    rename_i l H1 u1 u2 u3 r1 g1 s1
    exact k l H1 ys u1 r1.ext g1 (keepT (fun a xs h => by wtm_at "hf") h5)
def sp_Ear_hear (K : PySem.W.Frag) : Sp := fun vs H Q _ => ∃ p F E c ys rs, vs = [.ref p, .ref c] ∧ EarAt K H p F E ∧ SqL K H c ys ∧ c ∉ F ∧ Paired (IsR H) ys rs ∧ E.rows.length + rs.length ≤ 1000000 ∧
  ∀ H', EarAt K H' p F (E.hear rs) → Ext F H H' → Q (.int (E.hear rs).behind) H'
theorem sc_Ear_hear : FnScope ["self", "changes", "change"] ["self", "changes"] (defScope s_Ear_hear) := ⟨rfl, rfl, rfl, by decide +kernel, rfl, by decide +kernel, by decide +kernel⟩
theorem ok_Ear_hear (T : FX K mg) : FnOk P w K mg base (L2N.CX P w) 1 (He.ma K (He.ga K "Ear") "hear") (fdAt K ("Ear", some "hear")) ["self", "changes"] (sp_Ear_hear K) := by
  refine FunD.ok T.F_Ear_hear sc_Ear_hear (fun vs H Q E h => ?_) (fun cdv A outer s H vs Q E hr h => ?_)
  · (repeat (obtain ⟨_, h⟩ := h)); subst_vars; rfl
  · have hu := hu_of hr
    have hu64 := hr.units
    refine ⟨_,
      (pss_cons
        (ps_for pod rfl (pi_list (pv 1)) (pg_name (i := 2) sc_Ear_hear.nd rfl (Or.inl rfl))
          (pss_one
            (ps_if (pt_cmpR oIgt (pe_ix ix_tup (pv 2) pe_int (fun _ _ => rfl)) (pe_fldC T.cl_Ear T.na_Ear_behind (pv 0)) (nomark _))
              (pss_cons
                (ps_expr (pe_bm PySem.F.plainAttrs_list PySem.F.slot_list_append PySem.F.type_list_append mt_append (pe_fldC T.cl_Ear T.na_Ear_rows (pv 0)) (pa_cons (pv 2) pa_nil)))
              (pss_one
                (ps_fldC T.cl_Ear T.na_Ear_behind (pv 0) (pe_ix ix_tup (pv 2) pe_int (fun _ _ => rfl)))))
              pss_nil)))
      (pss_one
        (ps_ret (pe_fldC T.cl_Ear T.na_Ear_behind (pv 0))))), ?_⟩
    obtain ⟨p, F, E, c, ys, rs, rfl, hE, hc, cF, hr, z, k⟩ := h
    repeat wtm_at "k"
    have len := Paired.length hr
    have rl : ∀ i, (E.rows ++ (rs.take i)).length ≤ 1000000 := fun i => by rw [List.length_append]; have := List.length_take_le' i rs; omega
    have hl : ∀ i, ((rs.take i).foldl EarS.step E).rows.length ≤ E.rows.length + (rs.take i).length := by
      have : ∀ (l : List Row) (E : EarS), (l.foldl EarS.step E).rows.length ≤ E.rows.length + l.length := by
        intro l
        induction l with
        | nil => exact fun E => Nat.le_refl _
        | cons r l ih =>
          intro E
          refine Nat.le_trans (ih _) ?_
          unfold EarS.step
          split
          · show (E.rows ++ [r]).length + l.length ≤ E.rows.length + (l.length + 1); rw [List.length_append]; simp; omega
          · show E.rows.length + l.length ≤ E.rows.length + (l.length + 1); omega
      exact fun i => this _ _
    have hlv := hE.live
    refine l_for (xs := ys) hc (fun i σ' H' => ∃ x2, σ' = [some (.ref p), some (.ref c), x2] ∧ Run F H H' ∧ EarAt K H' p F ((rs.take i).foldl EarS.step E)) ?h0 ?hl ?hs ?hd
    case h0 => exact ⟨_, rfl, Run.start hlv, by simpa using hE⟩
    case hl => exact fun i σ' H' _ ⟨_, _, r, _⟩ => r.ext.seqL cF hc
    case hs =>
      intro i x σ' H' ex ⟨x2, es, r1, hE1⟩
      subst es
      obtain ⟨r, er, t, rfl, ht⟩ := getT hr ex
      have ht' : H' t = some (.tup (fR r)) := r1.ext.tups _ _ ht
      have zl := hl i
      have z2 := rl i
      rw [List.length_append] at z2
      obtain ⟨pb, pr, dx, bs, zs, rfl, h1, h2, h3, h4, h5, n⟩ := id hE1
      have lz := Paired.length h5
      have npr : p ≠ pr := by wtm_at "ne"
      have npb : p ≠ pb := by wtm_at "ne"
      generalize hG : (rs.take i).foldl EarS.step E = G at *
      repeat wtm_at "k"
      refine k_ifd (fun cc => ?_) fun cc => ?_
      · repeat wtm_at "k"
        rename_i H2 r2 g2 n2 H3 r3 g3 n3
        refine ⟨_, rfl, r3, ?_⟩
        rw [foldl_snoc er, hG]
        unfold EarS.step
        rw [if_pos cc]
        exact ⟨pb, pr, dx, bs, _, rfl, g3, by wtm_at "hf", by wtm_at "hf", keepT (fun a xs h => by wtm_at "hf") h4, snocT (keepT (fun a xs h => by wtm_at "hf") h5) ⟨t, rfl, by wtm_at "hf"⟩, n⟩
      · repeat wtm_at "k"
        refine ⟨_, rfl, r1, ?_⟩
        rw [foldl_snoc er, hG]
        unfold EarS.step
        rw [if_neg cc]
        exact hE1
    case hd =>
      rintro σ' H' ⟨x2, rfl, r1, hE1⟩
      have e : rs.take ys.length = rs := by rw [len, List.take_length]
      rw [e] at hE1
      obtain ⟨pb, pr, dx, bs, zs, rfl, h1, h2, h3, h4, h5, n⟩ := id hE1
      have h1' : H' p = some (.ins (He.ga K "Ear") dx (fl_Ear (.int (E.hear rs).behind) (.ref pb) (.ref pr))) := h1
      clear h1
      repeat wtm_at "k"
      exact k H' hE1 r1.ext
def sp_Ear_state (K : PySem.W.Frag) : Sp := fun vs H Q _ => ∃ p F E, vs = [.ref p] ∧ EarAt K H p F E ∧ E.begun.length + E.rows.length ≤ 1000000 ∧ (stAll E.begun E.rows).length < 64 ∧
  ∀ l H' ys, H l = none → Ext [] H H' → H' l = some (.lst ys) → Paired (IsS H') ys (sortedPairs (stAll E.begun E.rows)) → Q (.ref l) H'
theorem sc_Ear_state : FnScope ["self", "found", "change", "key", "value"] ["self"] (defScope s_Ear_state) := ⟨rfl, rfl, rfl, by decide +kernel, rfl, by decide +kernel, by decide +kernel⟩
theorem ok_Ear_state (T : FX K mg) : FnOk P w K mg base (L2N.CX P w) 1 (He.ma K (He.ga K "Ear") "state") (fdAt K ("Ear", some "state")) ["self"] (sp_Ear_state K) := by
  refine FunD.ok T.F_Ear_state sc_Ear_state (fun vs H Q E h => ?_) (fun cdv A outer s H vs Q E hr h => ?_)
  · (repeat (obtain ⟨_, h⟩ := h)); subst_vars; rfl
  · have hu := hu_of hr
    have hu64 := hr.units
    refine ⟨_,
      (pss_cons
        (ps_set (i := 1) sc_Ear_state.nd rfl (Or.inr rfl) pe_dnewK)
      (pss_cons
        (ps_for pod rfl (pi_list (pe_fldC T.cl_Ear T.na_Ear_begun (pv 0))) (pg_tup rfl (pgs_cons (pg_name (i := 3) sc_Ear_state.nd rfl (Or.inl rfl)) (pgs_cons (pg_name (i := 4) sc_Ear_state.nd rfl (Or.inl rfl)) pgs_nil)))
          (pss_one
            (ps_dput hu (pv 1) (pv 3) (pv 4) rfl)))
      (pss_cons
        (ps_for pod rfl (pi_list (pe_fldC T.cl_Ear T.na_Ear_rows (pv 0))) (pg_name (i := 2) sc_Ear_state.nd rfl (Or.inl rfl))
          (pss_one
            (ps_if (pt_cmpR oSeq (pe_ix ix_tup (pv 2) pe_int (fun _ _ => rfl)) pe_str (nomark _))
              (pss_one
                (ps_dput hu (pv 1) (pe_ix ix_tup (pv 2) pe_int (fun _ _ => rfl)) (pe_ix ix_tup (pv 2) pe_int (fun _ _ => rfl)) rfl))
              (pss_one
                (ps_if (pt_cmp (pc_din hu (pe_ix ix_tup (pv 2) pe_int (fun _ _ => rfl)) (pv 1)))
                  (pss_one
                    (ps_expr (pe_dpop1 (pv 1) (pe_ix ix_tup (pv 2) pe_int (fun _ _ => rfl)) ⟨rfl, rfl, rfl, rfl⟩)))
                  pss_nil)))))
      (pss_one
        (ps_ret (pe_lc (own := [("key", 3)]) (g := gName 3) rfl sc_Ear_state.nd (pi_list (pe_callB (oSortedD rfl) (by rfl) T.f_sorted (by decide +kernel) (pa_cons (pv 1) pa_nil))) (blkOk_by (N := ["self", "found", "change", "key", "value"]) (sc := defScope s_Ear_state) (by decide +kernel)) (fun _ _ _ _ _ => (pg_name (i := 3) sc_Ear_state.nd rfl (Or.inl rfl))) (fun _ _ _ _ _ => pts_nil) (fun _ _ _ _ _ => (pe_tup (pa_cons (pv 3) (pa_cons (pe_dget hu (pv 1) (pv 3) (fun _ _ => rfl)) pa_nil)))))))))), ?_⟩
    obtain ⟨p, F, E, rfl, ⟨pb, pr, dx, bs, ys, rfl, h1, h2, h3, h4, h5, n⟩, zz, z64, k⟩ := h
    have R0 : Run [] H H := Run.start Live.nil
    repeat wtm_at "k"
    rename_i d H1 u1 u2 u3 r1 g1 s1
    have txb : ∀ i, PTx ((E.begun.take i).foldl (fun l (p : SS) => aput l p.k p.v) []) := fun i => stBeg_tx fun _ z => by cases z
    have lb := Paired.length h4
    have lr := Paired.length h5
    have len1 : ∀ (b : List SS) (l : List (Str × Str)), (b.foldl (fun l (p : SS) => aput l p.k p.v) l).length ≤ l.length + b.length := by
      intro b
      induction b with
      | nil => exact fun l => Nat.le_refl _
      | cons p b ih =>
        intro l
        refine Nat.le_trans (ih _) ?_
        have := length_aput (l := l) (k := p.k) (v := p.v)
        show (aput l p.k p.v).length + b.length ≤ l.length + (b.length + 1)
        omega
    have len2 : ∀ (b : List Row) (l : List (Str × Str)), (b.foldl stEv l).length ≤ l.length + b.length := by
      intro b
      induction b with
      | nil => exact fun l => Nat.le_refl _
      | cons r b ih =>
        intro l
        refine Nat.le_trans (ih _) ?_
        have : (stEv l r).length ≤ l.length + 1 := by
          unfold stEv
          split
          · exact length_aput
          · exact Nat.le_succ_of_le length_adrop
        show _ ≤ l.length + (b.length + 1)
        omega
    refine l_for (xs := bs) (SqL.of (by wtm_at "hf")) (fun i σ' H' => ∃ x3 x4, σ' = [some (.ref p), some (.ref d), none, x3, x4] ∧ Run [] H H' ∧ H' d = some (.dK (sk sv ((E.begun.take i).foldl (fun l (p : SS) => aput l p.k p.v) [])))) ?h0 ?hl ?hs ?hd
    case h0 => exact ⟨_, _, rfl, r1, by wtm_at "hf"⟩
    case hl => exact fun i σ' H' _ ⟨_, _, _, r, _⟩ => SqL.of (r.ext.keep _ _ h2 (by simp))
    case hs =>
      intro i x σ' H' ex ⟨x3, x4, es, r2, g2⟩
      subst es
      obtain ⟨q, eq, t, rfl, ht⟩ := getT h4 ex
      have ht' : H' t = some (.tup (fS q)) := r2.ext.tups _ _ ht
      have zl := len1 (E.begun.take i) []
      have z2 := List.length_take_le' i E.begun
      have zd : (sk sv ((E.begun.take i).foldl (fun l (p : SS) => aput l p.k p.v) [])).length < sizeLine := by rw [sk_len]; exact smallM (by simp at zl; omega)
      rw [show (E.begun.take (i + 1)).foldl (fun l (p : SS) => aput l p.k p.v) [] = aput ((E.begun.take i).foldl (fun l (p : SS) => aput l p.k p.v) []) q.k q.v from foldl_snoc eq]
      generalize (E.begun.take i).foldl (fun l (p : SS) => aput l p.k p.v) [] = l at *
      repeat wtm_at "k"
      rename_i H3 r3 g3 n3
      exact ⟨_, _, rfl, r3, g3⟩
    case hd =>
      rintro σ' H' ⟨x3, x4, rfl, r2, g2⟩
      have e : E.begun.take bs.length = E.begun := by rw [lb, List.take_length]
      rw [e] at g2
      have b1 := r2.ext.keep _ _ h1 (by simp)
      have b3 := r2.ext.keep _ _ h3 (by simp)
      repeat wtm_at "k"
      refine l_for (xs := ys) (SqL.of b3) (fun i σ' H' => ∃ x2 x3 x4, σ' = [some (.ref p), some (.ref d), x2, x3, x4] ∧ Run [] H H' ∧ H' d = some (.dK (sk sv ((E.rows.take i).foldl stEv (stBeg E.begun))))) ?h0 ?hl ?hs ?hd
      case h0 => exact ⟨_, _, _, rfl, r2, g2⟩
      case hl => exact fun i σ' H' _ ⟨_, _, _, _, r, _⟩ => SqL.of (r.ext.keep _ _ h3 (by simp))
      case hs =>
        intro i x σ' H3 ex ⟨x2, x3, x4, es, r3, g3⟩
        subst es
        obtain ⟨r, er, t, rfl, ht⟩ := getT h5 ex
        have ht' : H3 t = some (.tup (fR r)) := r3.ext.tups _ _ ht
        have zl := len2 (E.rows.take i) (stBeg E.begun)
        have zl1 : (stBeg E.begun).length ≤ 0 + E.begun.length := len1 E.begun []
        have z2 := List.length_take_le' i E.rows
        have zd : (sk sv ((E.rows.take i).foldl stEv (stBeg E.begun))).length < sizeLine := by rw [sk_len]; exact smallM (by omega)
        rw [foldl_snoc er]
        generalize (E.rows.take i).foldl stEv (stBeg E.begun) = l at *
        unfold stEv
        repeat wtm_at "k"
        refine k_ifd (fun cc => ?_) fun cc => ?_
        · rw [if_pos cc]
          repeat wtm_at "k"
          rename_i H4 r4 g4 n4
          exact ⟨_, _, _, rfl, r4, g4⟩
        · rw [if_neg cc]
          repeat wtm_at "k"
          rw [valV_sk]
          cases ca : aget l r.k with
          | none =>
            refine k_iff (k_next ⟨_, _, _, rfl, r3, ?_⟩)
            rw [adrop_none ca]
            exact g3
          | some v =>
            refine k_ift ?_
            repeat wtm_at "k"
            rename_i H4 r4 g4 n4
            exact ⟨_, _, _, rfl, r4, g4⟩
      case hd =>
        rintro σ' H3 ⟨x2, x3, x4, rfl, r3, g3⟩
        have e : E.rows.take ys.length = E.rows := by rw [lr, List.take_length]
        rw [e] at g3
        have g3 : H3 d = some (.dK (sk sv (stAll E.begun E.rows))) := g3
        repeat wtm_at "k"
        have tx : PTx (stAll E.begun E.rows) := stAll_tx
        refine l_sortedD r3 g3 z64 fun l H4 v1 v2 v3 r4 g4 s4 => ?_
        have g3' : H4 d = some (.dK (sk sv (stAll E.begun E.rows))) := s4 _ _ g3
        unfold sortedPairs at k
        generalize hks : sortS ((stAll E.begun E.rows).map (·.1)) = ks at *
        have mk : ∀ y ∈ ks, ∃ v, aget (stAll E.begun E.rows) y = some v := by
          intro y hy
          rw [← hks] at hy
          have := (sortS_perm _).mem_iff.mp hy
          cases ca : aget (stAll E.begun E.rows) y with
          | none => exact absurd this (aget_none.mp ca)
          | some v => exact ⟨v, rfl⟩
        refine l_lcL (j := 3) (xs := ks.map V.str) (SqL.of g4) ?_ (fun i acc H' => Paired (IsS H') acc ((ks.take i).map fun y => ssOf (y, (aget (stAll E.begun E.rows) y).getD Str.empty))) .nil (fun i acc H1 H2 t h => keepT t h) (fun i x acc H5 R R0' ex e5 hl hP q1 q0 => ?_) (fun D H5 acc nD e5 hD lD hP => ?_)
        · have : ks.length = (stAll E.begun E.rows).length := by rw [← hks, (sortS_perm _).length_eq, List.length_map]
          rw [List.length_map, this]
          exact smallM (by omega)
        · obtain ⟨y, ey, rfl⟩ := getM ex
          obtain ⟨v, ev⟩ := mk y (List.mem_of_getElem? ey)
          have g5 : H5 d = some (.dK (sk sv (stAll E.begun E.rows))) := e5.keep _ _ g3' (by simp)
          have ve := valV_sv ev
          have R5 : Run [] H5 H5 := Run.start Live.nil
          repeat wtm_at "k"
          rename_i t H6 w1 w2 w3 r6 g6 s6
          refine q1 _ _ r6.ext ?_
          rw [take_map_snoc ey]
          refine snocT (keepT r6.ext.tups hP) ⟨t, rfl, ?_⟩
          rw [ev, Option.getD_some, ssOf_eq (tx _ (aget_some_mem ev))]
          exact g6
        · refine k D H5 acc (r4.ext.free nD (by simp)) (r4.ext.trans e5) hD ?_
          have e : ks.take (ks.map V.str).length = ks := by rw [List.length_map, List.take_length]
          rw [e] at hP
          exact hP
end
end LW

set_option maxHeartbeats 4000000
namespace LW
open PySem PySem.Spec PyProof.Rows L2
local macro_rules | `(tactic| wtm_at "vk") => `(tactic| first
  | assumption
  | with_reducible exact rv_kept_told
  | exact valV_sv (by assumption)
  | exact valV_iv (by assumption)
  | fail)
local macro_rules | `(tactic| wtm_at "pk") => `(tactic| first
  | with_reducible exact putK_iv
  | with_reducible exact dropK_ik
  | with_reducible exact dropK_sk
  | with_reducible exact rp_kept_told
  | exact putK_sv
  | assumption
  | fail)
local macro_rules | `(tactic| wtm_at "rm") => `(tactic| first
  | with_reducible exact rm_kept
  | exact rfl
  | fail)
local macro_rules | `(tactic| wtm_at "rl") => `(tactic| first
  | with_reducible exact rl_kept
  | with_reducible assumption
  | fail)
local macro_rules | `(tactic| wtm_at "lk") => `(tactic| with_reducible first
  | exact lk_Ear_behind
  | exact lk_Ear_begun
  | exact lk_Ear_rows
  | fail)
local macro_rules | `(tactic| wtm_at "lm") => `(tactic| with_reducible first
  | exact lm_Ear_hear
  | exact lm_Ear_heard
  | exact lm_Ear_state
  | fail)
local macro_rules | `(tactic| wtm_at "pt") => `(tactic| with_reducible first
  | exact pt_Ear_behind
  | exact pt_Ear_begun
  | exact pt_Ear_rows
  | exact pi_Ear_0
  | exact pi_Ear_1
  | exact pi_Ear_2
  | fail)
local macro_rules | `(tactic| wtm_at "lz") => `(tactic| with_reducible first
  | exact lz_Ear
  | (simp only [List.length_cons, List.length_nil]; decide)
  | exact (by decide)
  | fail)
local macro_rules | `(tactic| wtm_at "hf") => `(tactic| first
  | assumption
  | (refine' hf_s ?hs ?hx; (case hs => assumption); (case hx => wtm_at "hf"))
  | (refine' hf_n ?hs ?hx ?ne; (case hs => assumption); (case hx => wtm_at "hf"); (case ne => wtm_at "ne"))
  | (refine' hf_e ?hs ?hx ?hy; (case hs => assumption); (case hx => wtm_at "hf"); (case hy => wtm_at "nin"))
  | fail)
local macro_rules | `(tactic| wtm_at "ne") => `(tactic| first
  | assumption
  | (apply Ne.symm; assumption)
  | (refine' ne_of_none ?hx ?hy; (case hy => assumption); (case hx => wtm_at "hf"))
  | (refine' (ne_of_none ?hx ?hy).symm; (case hy => assumption); (case hx => wtm_at "hf"))
  | (refine' ne_of ?hx ?hy ?hz; (case hx => assumption); (case hy => assumption); (case hz => intro z; cases z))
  | fail)
local macro_rules | `(tactic| wtm_at "nin") => `(tactic| first
  | assumption
  | exact notin_nil
  | (refine' notin_cons ?hx ?hy; (case hx => wtm_at "ne"); (case hy => wtm_at "nin"))
  | fail)
local macro_rules | `(tactic| wtm_at "mem") => `(tactic| first
  | assumption
  | exact List.mem_cons_self
  | (refine' List.mem_cons_of_mem _ ?hx; (case hx => wtm_at "mem"))
  | fail)
local macro_rules | `(tactic| wtm_at "wr") => `(tactic| first
  | exact Or.inr (by assumption)
  | exact Or.inl (by wtm_at "mem")
  | fail)
local macro_rules | `(tactic| wtm_at "lv") => `(tactic| first
  | assumption
  | exact Live.nil
  | (refine' Live.cons ?hx ?hy; (case hx => wtm_at "hf"); (case hy => wtm_at "lv"))
  | fail)
local macro_rules | `(tactic| wtm_at "run") => `(tactic| first
  | assumption
  | (refine' Run.same ?hx ?hy; (case hy => assumption); (case hx => wtm_at "run"))
  | fail)
local macro_rules | `(tactic| wtm_at "sq") => `(tactic| first
  | assumption
  | (refine' Run.seq ?hx ?hy; (case hx => assumption); (case hy => assumption))
  | (refine' SqL.of ?hx; (case hx => wtm_at "hf"))
  | (refine' Same.seq ?hx ?hy; (case hx => assumption); (case hy => wtm_at "sq"))
  | (refine' Ext.seqL ?hx ?hz ?hy; (case hx => assumption); (case hy => wtm_at "sq"); (case hz => wtm_at "nin"))
  | fail)
local macro_rules | `(tactic| wtm_at "st") => `(tactic| first
  | assumption
  | (refine' SqT.of ?hx; (case hx => wtm_at "hf"))
  | fail)
local macro_rules | `(tactic| wtm_at "ix") => `(tactic| first
  | assumption
  | exact rfl
  | fail)
local macro_rules | `(tactic| wtm_at "sz") => `(tactic| first
  | wtm_at "rl"
  | with_reducible assumption
  | (rw [ik_len]; wtm_at "sz")
  | (rw [sk_len]; wtm_at "sz")
  | exact smallM (by assumption)
  | exact smallM (by omega)
  | exact smallM (by simp only [List.length_cons, List.length_nil, List.length_append, List.length_map]; omega)
  | fail)
local macro_rules | `(tactic| wtm_at "tx") => `(tactic| first
  | assumption
  | ((with_reducible refine' Tx.app ?hx ?hy); (case hx => wtm_at "tx"); (case hy => wtm_at "tx"))
  | ((with_reducible refine' Tx.cut ?hx); (case hx => wtm_at "tx"))
  | with_reducible exact Tx.nil
  | fail)
local macro_rules | `(tactic| wtm_at "k") => `(tactic| first
  | with_reducible refine k_seq ?_
  | with_reducible refine k_next ?_
  | with_reducible refine k_asg ?_
  | with_reducible refine k_ret ?_
  | with_reducible refine k_retN ?_
  | with_reducible refine k_drop ?_
  | with_reducible refine k_ifS ?_
  | ((with_reducible refine' k_var ?hx ?_); (case hx => exact rfl))
  | with_reducible refine k_c ?_
  | with_reducible refine k_negc ?_
  | with_reducible refine k_neg ?_
  | with_reducible refine l_neg ?_
  | with_reducible refine k_op ?_
  | with_reducible refine k_cb ?_
  | with_reducible refine k_nil ?_
  | with_reducible refine k_cons ?_
  | with_reducible refine k_test ?_
  | with_reducible refine k_B ?_
  | with_reducible refine k_not ?_
  | with_reducible refine k_and ?_
  | with_reducible refine k_or ?_
  | with_reducible refine k_notV ?_
  | with_reducible refine k_andV ?_
  | with_reducible refine k_orV ?_
  | with_reducible refine k_bl ?_
  | with_reducible refine k_add ?_
  | with_reducible refine k_sub ?_
  | ((with_reducible refine' k_mod ?hx ?_); (case hx => first | decide | omega))
  | ((with_reducible refine' k_div ?hx ?_); (case hx => first | exact ⟨by decide, by decide⟩ | exact ⟨by omega, by omega⟩))
  | ((with_reducible refine' k_mul ?hx ?_); (case hx => first | exact Or.inl ⟨by decide, by decide⟩ | exact Or.inr ⟨by decide, by decide⟩ | exact Or.inl ⟨by omega, by omega⟩))
  | with_reducible refine k_p6 ?_
  | with_reducible refine k_p9 ?_
  | with_reducible refine k_p12 ?_
  | with_reducible refine k_p13 ?_
  | with_reducible refine k_p18 ?_
  | with_reducible refine k_p30 ?_
  | with_reducible refine k_lt ?_
  | with_reducible refine k_le ?_
  | with_reducible refine k_gt ?_
  | with_reducible refine k_ge ?_
  | with_reducible refine k_eq ?_
  | with_reducible refine k_ne ?_
  | with_reducible refine k_seqS ?_
  | with_reducible refine k_neS ?_
  | with_reducible refine k_neB ?_
  | with_reducible refine k_isN ?_
  | with_reducible refine k_noN ?_
  | with_reducible refine k_fld ?_
  | ((with_reducible refine' l_fld ?hx ?hy ?_); (case hx => wtm_at "hf"); (case hy => wtm_at "lk"))
  | with_reducible refine k_fldS ?_
  | ((with_reducible refine' l_fldS ?hr ?hx ?hz ?hy ?hw ?_); (case hr => wtm_at "run"); (case hx => wtm_at "hf"); (case hy => wtm_at "pt"); (case hz => wtm_at "lz"); (case hw => wtm_at "wr"); intro _ _ _ _)
  | ((with_reducible refine' l_new ?hr ?_); (case hr => wtm_at "run"); intro _ _ _ _ _ _ _ _)
  | with_reducible refine k_append ?_
  | ((with_reducible refine' l_tyL ?hx ?_); (case hx => wtm_at "hf"))
  | ((with_reducible refine' l_ins ?hx ?hy ?_); (case hx => wtm_at "hf"); (case hy => wtm_at "lm"))
  | with_reducible refine k_methS ?_
  | with_reducible refine k_methG ?_
  | with_reducible refine k_makeG ?_
  | with_reducible refine k_meth0 ?_
  | with_reducible refine k_callS ?_
  | with_reducible refine k_callE ?_
  | with_reducible refine k_dget ?_
  | with_reducible refine k_din ?_
  | with_reducible refine k_dnotin ?_
  | with_reducible refine k_dput ?_
  | with_reducible refine k_dpop ?_
  | with_reducible refine k_dget2 ?_
  | with_reducible refine k_tup ?_
  | with_reducible refine k_lst ?_
  | with_reducible refine k_dnew ?_
  | ((with_reducible refine' l_tup ?hx ?_); (case hx => simp only [List.length_cons, List.length_nil]; decide))
  | ((with_reducible refine' l_lst ?hx ?_); (case hx => simp only [List.length_cons, List.length_nil]; decide))
  | ((with_reducible refine' l_isD ?hx ?_); (case hx => wtm_at "hf"))
  | ((with_reducible refine' l_dinI ?hx ?_); (case hx => wtm_at "hf"))
  | ((with_reducible refine' l_dinS ?hx ?_); (case hx => wtm_at "hf"))
  | ((with_reducible refine' l_dnotinI ?hx ?_); (case hx => wtm_at "hf"))
  | ((with_reducible refine' l_dnotinS ?hx ?_); (case hx => wtm_at "hf"))
  | ((with_reducible refine' l_dputI ?hr ?hx ?hz ?hy ?hw ?_); (case hr => wtm_at "run"); (case hx => wtm_at "hf"); (case hy => wtm_at "pk"); (case hz => wtm_at "sz"); (case hw => wtm_at "wr"); intro _ _ _ _)
  | ((with_reducible refine' l_dputS ?hr ?hx ?hz ?hy ?hw ?_); (case hr => wtm_at "run"); (case hx => wtm_at "hf"); (case hy => wtm_at "pk"); (case hz => wtm_at "sz"); (case hw => wtm_at "wr"); intro _ _ _ _)
  | ((with_reducible refine' l_dpopI ?hr ?hx ?hz ?hy ?hw ?_); (case hr => wtm_at "run"); (case hx => wtm_at "hf"); (case hy => wtm_at "pk"); (case hz => wtm_at "vk"); (case hw => wtm_at "wr"); intro _ _ _ _)
  | ((with_reducible refine' l_dpopS ?hr ?hx ?hz ?hy ?hw ?_); (case hr => wtm_at "run"); (case hx => wtm_at "hf"); (case hy => wtm_at "pk"); (case hz => wtm_at "vk"); (case hw => wtm_at "wr"); intro _ _ _ _)
  | ((with_reducible refine' l_dgetI ?hx ?hz ?_); (case hx => wtm_at "hf"); (case hz => wtm_at "vk"))
  | ((with_reducible refine' l_dgetS ?hx ?hz ?_); (case hx => wtm_at "hf"); (case hz => wtm_at "vk"))
  | ((with_reducible refine' l_dgetIF ?hx ?hz ?_); (case hx => wtm_at "hf"); (case hz => wtm_at "vk"))
  | ((with_reducible refine' l_dgetSF ?hx ?hz ?_); (case hx => wtm_at "hf"); (case hz => wtm_at "vk"))
  | ((with_reducible refine' k_disp ?hr ?_); (case hr => wtm_at "run"); intro _ _ _ _ _ _ _ _)
  | with_reducible refine k_pcons ?_
  | with_reducible refine k_pnil ?_
  | ((with_reducible refine' l_disp ?hr ?hx ?hu ?hv ?hy ?hw ?_); (case hr => wtm_at "run"); (case hx => wtm_at "hf"); (case hu => exact rfl); (case hv => simp only [List.length_map, List.length_cons, List.length_nil]; decide); (case hy => wtm_at "rm"); (case hw => wtm_at "wr"); intro _ _ _ _)
  | ((with_reducible refine' l_append ?hr ?hx ?hz ?hw ?_); (case hr => wtm_at "run"); (case hx => wtm_at "hf"); (case hz => wtm_at "sz"); (case hw => wtm_at "wr"); intro _ _ _ _)
  | ((with_reducible refine' l_isEt ?hx ?_); (case hx => first | exact isD (ExcK.kit (by assumption) _ (by wtm_at "mem") _ (by wtm_at "mem")) | exact isC (ExcK.kit (by assumption) _ (by wtm_at "mem") _ (by wtm_at "mem")) (by decide)))
  | ((with_reducible refine' l_isEV ?hx ?_); (case hx => exact ExcK.kitV (by assumption) _ (by wtm_at "mem")))
  | ((with_reducible refine' l_isiI ?hx ?_); (case hx => first | rfl | assumption))
  | ((with_reducible refine' l_isiB ?hx ?_); (case hx => first | rfl | assumption))
  | with_reducible refine l_isiSS ?_
  | ((with_reducible refine' l_isiS ?hx ?_); (case hx => first | rfl | assumption))
  | ((with_reducible refine' l_isiL ?hx ?_); (case hx => wtm_at "hf"))
  | ((with_reducible refine' l_isiT ?hx ?_); (case hx => wtm_at "hf"))
  | ((with_reducible refine' l_lenL ?hx ?_); (case hx => wtm_at "sq"))
  | ((with_reducible refine' l_lenT ?hx ?_); (case hx => wtm_at "st"))
  | ((with_reducible refine' l_ixL ?hx ?hy ?_); (case hx => wtm_at "sq"); (case hy => wtm_at "ix"))
  | ((with_reducible refine' l_ixT ?hx ?hy ?_); (case hx => wtm_at "st"); (case hy => wtm_at "ix"))
  | with_reducible refine k_m1 ?_
  | with_reducible refine l_strX ?_
  | with_reducible refine l_sw ?_
  | ((with_reducible refine' x_addS ?hx ?hy ?hz ?_); (case hx => wtm_at "tx"); (case hy => wtm_at "tx"); (case hz => decide))
  | ((with_reducible refine' x_slS ?hx ?hz ?_); (case hx => wtm_at "tx"); (case hz => decide))
  | ((with_reducible refine' x_lenX ?hx ?hz ?_); (case hx => wtm_at "tx"); (case hz => decide))
  | with_reducible refine l_max ?_
  | with_reducible refine l_min ?_
  | with_reducible refine l_abs ?_
  | with_reducible refine k_sl ?_
  | with_reducible refine k_part ?_
  | with_reducible refine l_part ?_
  | with_reducible refine k_nopart ?_
  | with_reducible refine k_yes ?_
  | ((with_reducible refine' l_slL ?hr ?hx ?_); (case hr => wtm_at "run"); (case hx => wtm_at "sq"); intro _ _ _ _ _ _ _ _)
  | with_reducible refine k_lcL ?_
  | with_reducible refine k_lcR ?_
  | with_reducible refine k_for ?_
  | with_reducible refine k_rng1 ?_
  | with_reducible refine k_rng2 ?_
  | with_reducible refine k_rng3 ?_
  | with_reducible refine k_makeS ?_
  | ((with_reducible refine' l_make ?hr ?_); (case hr => wtm_at "run"); intro _ _ _ _ _ _ _ _ _)
  | with_reducible refine k_ntt ?_
  | with_reducible refine k_ntf ?_
  | with_reducible refine k_clear ?_
  | ((with_reducible refine' l_clear ?hr ?hx ?hw ?_); (case hr => wtm_at "run"); (case hx => wtm_at "hf"); (case hw => wtm_at "wr"); intro _ _ _ _)
  | with_reducible refine k_ift ?_
  | with_reducible refine k_iff ?_
  | with_reducible refine g_name ?_
  | with_reducible refine k_revL ?_
  | ((with_reducible refine' l_tupL ?hx ?_); (case hx => wtm_at "sq"))
  | with_reducible refine l_intB ?_
  | ((with_reducible refine' l_rev ?hx ?_); (case hx => wtm_at "sq"))
  | ((with_reducible refine' l_gT2 ?hn ?hx ?_); (case hn => exact rfl); (case hx => wtm_at "st"))
  | ((with_reducible refine' l_listL ?hx ?_); (case hx => wtm_at "sq"))
  | ((with_reducible refine' l_listT ?hx ?_); (case hx => wtm_at "st"))
  | fail)
local macro_rules | `(tactic| wtm_at "k") => `(tactic| first
  | with_reducible refine k_wholeI ?_
  | ((with_reducible refine' k_whole ?hx ?_); (case hx => first | rfl | assumption))
  | ((with_reducible refine' k_cell ?hx ?hy ?_); (case hx => first | decide | omega | assumption); (case hy => wtm_at "sq"))
  | fail)
/-! ### texts that are drawn -/
section
variable {P : Program} {w : World} {K : PySem.W.Frag} {mg : Str → Option Value} {base : Heap}
def sp_l_sign (K : PySem.W.Frag) : Sp := fun vs H Q _ => ∃ c, vs = [.int c] ∧ ∀ s, Tx 1 s → s.length = 1 → Q (.str s) H
theorem sc_l_sign : FnScope ["_law_cell", "_law_some"] ["_law_cell"] (defScope s_l_sign) := ⟨rfl, rfl, rfl, by decide +kernel, rfl, by decide +kernel, by decide +kernel⟩
theorem ok_l_sign (T : FX K mg) : FnOk P w K mg base (L2N.CX P w) 1 (He.ga K "_law_sign") (fdAt K ("_law_sign", none)) ["_law_cell"] (sp_l_sign K) := by
  refine FunD.ok T.F_l_sign sc_l_sign (fun vs H Q E h => ?_) (fun cdv A outer s H vs Q E hr h => ?_)
  · (repeat (obtain ⟨_, h⟩ := h)); subst_vars; rfl
  · have hu := hu_of hr
    have hu64 := hr.units
    refine ⟨_,
      (pss_cons
        (ps_set (i := 1) sc_l_sign.nd rfl (Or.inl rfl) pe_str)
      (pss_cons
        (ps_set (i := 1) sc_l_sign.nd rfl (Or.inl rfl) (pe_op oSadd (pv 1) pe_str))
      (pss_one
        (ps_ret (pe_ix ix_str (pv 1) (pe_op oImod (pv 0) pe_int) (fun _ _ => rfl)))))), ?_⟩
    obtain ⟨c, rfl, k⟩ := h
    repeat wtm_at "k"
    refine k_addS (by decide +kernel) ?_
    repeat wtm_at "k"
    exact l_ixS (by decide +kernel) (by omega) (Int.lt_of_lt_of_le (show c % 94 < 94 by omega) (by decide +kernel)) (by decide +kernel) fun s o l => k s ⟨o, by omega⟩ l
def sp_l_text (K : PySem.W.Frag) : Sp := fun vs H Q _ => ∃ c n, vs = [.int c, .int n] ∧ 0 ≤ n ∧ n ≤ 100 ∧ ∀ s H', Tx 100 s → Ext [] H H' → Q (.str s) H'
theorem sc_l_text : FnScope ["_law_cell", "_law_size", "_law_k"] ["_law_cell", "_law_size"] (defScope s_l_text) := ⟨rfl, rfl, rfl, by decide +kernel, rfl, by decide +kernel, by decide +kernel⟩
theorem ok_l_text (T : FX K mg) : FnOk P w K mg base (L2N.CX P w) 2 (He.ga K "_law_text") (fdAt K ("_law_text", none)) ["_law_cell", "_law_size"] (sp_l_text K) := by
  refine FunD.ok T.F_l_text sc_l_text (fun vs H Q E h => ?_) (fun cdv A outer s H vs Q E hr h => ?_)
  · (repeat (obtain ⟨_, h⟩ := h)); subst_vars; rfl
  · have hu := hu_of hr
    have hu64 := hr.units
    refine ⟨_,
      (pss_one
        (ps_ret (pe_m1 PySem.F.slot_str_join PySem.F.type_str_join oJoin pe_str (pe_lc (own := [("_law_k", 2)]) (g := gName 2) rfl sc_l_text.nd (pi_range1 rfl T.f_range (pa_cons (pv 1) pa_nil)) (blkOk_by (N := ["_law_cell", "_law_size", "_law_k"]) (sc := defScope s_l_text) (by decide +kernel)) (fun _ _ _ _ _ => (pg_name (i := 2) sc_l_text.nd rfl (Or.inl rfl))) (fun _ _ _ _ _ => pts_nil) (fun _ _ _ _ _ => (pe_callS (ok_l_sign T) (hr.mono (j := 1) (by decide)) rfl T.g_l_sign T.k_l_sign T.b_l_sign (fun σ => L2N.passAt tk0 σ) (pa_cons (pe_op oIadd (pv 0) (pe_op oImul (pe_op oImul pe_int (pv 2)) (pv 2))) pa_nil))))))), ?_⟩
    obtain ⟨c, n, rfl, h0, h1, k⟩ := h
    repeat wtm_at "k"
    refine l_lcR (by omega) (by omega) (fun i acc _ => ∃ ts : List Str, acc = ts.map V.str ∧ ts.length = i ∧ (∀ t ∈ ts, PyData.strOk t = true) ∧ (ts.map (·.length)).sum = i) ⟨[], rfl, rfl, (fun _ z => by cases z), rfl⟩ (fun _ _ _ _ _ z => z) ?hs ?hq
    case hs =>
      intro i acc H1 R R0 hi e hl ⟨ts, ea, el, ok, sm⟩ q1 q0
      subst ea
      repeat wtm_at "k"
      refine ⟨_, rfl, fun s o1 o2 => ?_⟩
      refine q1 _ _ (Ext.refl _ _) ⟨ts ++ [s], by rw [List.map_append]; rfl, by rw [List.length_append, el]; rfl, fun t m => ?_, ?_⟩
      · rcases List.mem_append.mp m with m | m
        · exact ok t m
        · rw [List.mem_singleton.mp m]; exact o1.ok
      · rw [List.map_append, List.sum_append, sm]; simp [o2]
    case hq =>
      rintro D H' acc hD e hd hl ⟨ts, rfl, el, ok, sm⟩
      refine l_join (SqL.of hd) (by rw [sm]; omega) ?_
      exact k _ _ ⟨ok_join ok, by rw [join_len, sm]; omega⟩ e
/-- six texts -/
structure PoolAt (H : Hp) (p : Addr) (ts : List Str) : Prop where
  at' : H p = some (.lst (ts.map V.str))
  len : ts.length = 6
  tx : ∀ t ∈ ts, Tx 300 t
theorem PoolAt.ext {H H' : Hp} {p : Addr} {ts : List Str} {F : List Addr} (a : PoolAt H p ts) (e : Ext F H H') (n : p ∉ F) : PoolAt H' p ts := ⟨e.keep _ _ a.at' n, a.len, a.tx⟩
theorem PoolAt.get {H : Hp} {p : Addr} {ts : List Str} (a : PoolAt H p ts) {n : Int} (h : 0 ≤ n) (l : n < 6) : ∃ t, atI (ts.map V.str) n = some (.str t) ∧ Tx 300 t := by
  obtain ⟨c, ec, mc⟩ := atI_mem (xs := ts.map V.str) h (by rw [List.length_map, a.len]; exact l)
  obtain ⟨t, mt, rfl⟩ := List.mem_map.mp mc
  exact ⟨t, ec, a.tx t mt⟩
def sp_l_pool (K : PySem.W.Frag) : Sp := fun vs H Q _ => ∃ c o, vs = [.int c, .int o] ∧ ∀ p H' ts, H p = none → Ext [] H H' → PoolAt H' p ts → Q (.ref p) H'
theorem sc_l_pool : FnScope ["_law_cell", "_law_other", "_law_first", "_law_one", "_law_two", "_law_at"] ["_law_cell", "_law_other"] (defScope s_l_pool) := ⟨rfl, rfl, rfl, by decide +kernel, rfl, by decide +kernel, by decide +kernel⟩
theorem ok_l_pool (T : FX K mg) : FnOk P w K mg base (L2N.CX P w) 3 (He.ga K "_law_pool") (fdAt K ("_law_pool", none)) ["_law_cell", "_law_other"] (sp_l_pool K) := by
  refine FunD.ok T.F_l_pool sc_l_pool (fun vs H Q E h => ?_) (fun cdv A outer s H vs Q E hr h => ?_)
  · (repeat (obtain ⟨_, h⟩ := h)); subst_vars; rfl
  · have hu := hu_of hr
    have hu64 := hr.units
    refine ⟨_,
      (pss_cons
        (ps_set (i := 2) sc_l_pool.nd rfl (Or.inl rfl) (pe_callS (ok_l_text T) (hr.mono (j := 2) (by decide)) rfl T.g_l_text T.k_l_text T.b_l_text (fun σ => L2N.passAt tkd σ) (pa_cons (pv 0) (pa_cons (pe_ix ix_list (pe_lst (pa_cons (pe_op oIadd pe_int (pe_op oImod (pv 0) pe_int)) (pa_cons (pe_op oIadd pe_int (pe_op oImod (pv 0) pe_int)) pa_nil))) (pe_op oImod (pe_op oIdiv (pv 0) pe_int) pe_int) (fun _ _ => rfl)) pa_nil))))
      (pss_cons
        (ps_set (i := 3) sc_l_pool.nd rfl (Or.inl rfl) (pe_callS (ok_l_sign T) (hr.mono (j := 1) (by decide)) rfl T.g_l_sign T.k_l_sign T.b_l_sign (fun σ => L2N.passAt tkd σ) (pa_cons (pv 1) pa_nil)))
      (pss_cons
        (ps_set (i := 4) sc_l_pool.nd rfl (Or.inl rfl) (pe_callS (ok_l_sign T) (hr.mono (j := 1) (by decide)) rfl T.g_l_sign T.k_l_sign T.b_l_sign (fun σ => L2N.passAt tkd σ) (pa_cons (pe_op oIdiv (pv 1) pe_int) pa_nil)))
      (pss_cons
        (ps_set (i := 5) sc_l_pool.nd rfl (Or.inl rfl) (pe_op oImod (pe_op oIdiv (pv 1) pe_int) (pe_op oIadd (pe_callB oLenX (by rfl) T.f_len PySem.boot_len (pa_cons (pv 2) pa_nil)) pe_int)))
      (pss_one
        (ps_ret (pe_lst (pa_cons (pv 2) (pa_cons (pe_op oSadd (pv 2) (pv 3)) (pa_cons (pe_op oSadd (pe_op oSadd (pe_slice sl_str (pv 2) po_none (po_some (pv 5))) (pv 4)) (pe_slice sl_str (pv 2) (po_some (pv 5)) po_none)) (pa_cons (pv 3) (pa_cons (pe_op oSadd (pv 4) (pv 2)) (pa_cons (pe_callS (ok_l_text T) (hr.mono (j := 2) (by decide)) rfl T.g_l_text T.k_l_text T.b_l_text (fun σ => L2N.passAt tkd σ) (pa_cons (pv 1) (pa_cons (pe_op oIsub pe_int (pe_op oImod (pv 1) pe_int)) pa_nil))) pa_nil))))))))))))), ?_⟩
    obtain ⟨c, o, rfl, k⟩ := h
    have R0 : Run [] H H := Run.start Live.nil
    obtain ⟨d, ed, hd⟩ : ∃ d, atI (([1 + c % 4, 1 + c % 18] : List Int).map V.int) (c / 4 % 2) = some (.int d) ∧ 1 ≤ d ∧ d ≤ 18 := by
      have h : c / 4 % 2 = 0 ∨ c / 4 % 2 = 1 := by omega
      rcases h with h | h <;> rw [h] <;> exact ⟨_, rfl, by omega, by omega⟩
    repeat wtm_at "k"
    refine ⟨c, d, rfl, by omega, by omega, fun first H1 o1 e1 => ?_⟩
    repeat wtm_at "k"
    refine ⟨_, rfl, fun one o2 l2 => ?_⟩
    repeat wtm_at "k"
    refine ⟨_, rfl, fun two o3 l3 => ?_⟩
    repeat wtm_at "k"
    have R3 : Run [] H H1 := Run.same (by assumption) e1
    refine ⟨_, _, rfl, by omega, by omega, fun last H4 o4 e4 => ?_⟩
    have R4 := R3.same e4
    repeat wtm_at "k"
    rename_i p H5 f1 f2 f3 r5 h5 s5
    refine k p H5 [first, first ++ one, cutS first none (some (o / 8836 % (first.length + 1))) ++ two ++ cutS first (some (o / 8836 % (first.length + 1))) none, one, two ++ first, last] f1 (Run.ext (by assumption)) ⟨h5, rfl, ?_⟩
    intro t ht
    simp only [List.mem_cons, List.not_mem_nil, or_false] at ht
    rcases ht with rfl | rfl | rfl | rfl | rfl | rfl <;> exact Tx.mono (by wtm_at "tx") (by decide)
def sp_l_prefix (K : PySem.W.Frag) : Sp := fun vs H Q _ => ∃ p ts c, vs = [.ref p, .int c] ∧ PoolAt H p ts ∧ ∀ s H', Tx 300 s → Ext [] H H' → Q (.str s) H'
theorem sc_l_prefix : FnScope ["_law_pool_here", "_law_cell"] ["_law_pool_here", "_law_cell"] (defScope s_l_prefix) := ⟨rfl, rfl, rfl, by decide +kernel, rfl, by decide +kernel, by decide +kernel⟩
theorem ok_l_prefix (T : FX K mg) : FnOk P w K mg base (L2N.CX P w) 1 (He.ga K "_law_prefix") (fdAt K ("_law_prefix", none)) ["_law_pool_here", "_law_cell"] (sp_l_prefix K) := by
  refine FunD.ok T.F_l_prefix sc_l_prefix (fun vs H Q E h => ?_) (fun cdv A outer s H vs Q E hr h => ?_)
  · (repeat (obtain ⟨_, h⟩ := h)); subst_vars; rfl
  · have hu := hu_of hr
    have hu64 := hr.units
    refine ⟨_,
      (pss_one
        (ps_ret (pe_ix ix_list (pe_lst (pa_cons pe_str (pa_cons pe_str (pa_cons (pe_ix ix_list (pv 0) pe_int (fun _ _ => rfl)) (pa_cons (pe_ix ix_list (pv 0) pe_int (fun _ _ => rfl)) (pa_cons (pe_ix ix_list (pv 0) pe_int (fun _ _ => rfl)) (pa_cons (pe_slice sl_str (pe_ix ix_list (pv 0) pe_int (fun _ _ => rfl)) po_none (po_some pe_int)) (pa_cons (pe_ix ix_list (pv 0) pe_int (fun _ _ => rfl)) pa_nil)))))))) (pe_op oImod (pv 1) pe_int) (fun _ _ => rfl)))), ?_⟩
    obtain ⟨p, ts, c, rfl, ⟨hp, hl, ht⟩, k⟩ := h
    have R0 : Run [] H H := Run.start Live.nil
    match ts, hl, ht, hp with
    | [t0, t1, t2, t3, t4, t5], _, ht, hp =>
      have x0 := ht t0 (by simp)
      have x1 := ht t1 (by simp)
      have x3 := ht t3 (by simp)
      have x4 := ht t4 (by simp)
      have x5 := ht t5 (by simp)
      repeat wtm_at "k"
      obtain ⟨s, es, hs⟩ : ∃ s, atI [V.str Str.empty, V.str Str.empty, V.str t0, V.str t3, V.str t1, V.str (cutS t4 none (some 1)), V.str t5] (c % 7) = some (.str s) ∧ Tx 300 s := by
        have h : c % 7 = 0 ∨ c % 7 = 1 ∨ c % 7 = 2 ∨ c % 7 = 3 ∨ c % 7 = 4 ∨ c % 7 = 5 ∨ c % 7 = 6 := by omega
        have x2 := ht t1 (by simp)
        rcases h with h | h | h | h | h | h | h <;> rw [h] <;> exact ⟨_, rfl, Tx.mono (by wtm_at "tx") (by decide)⟩
      refine l_ixL (by wtm_at "sq") es ?_
      exact k _ _ hs (Run.ext (by assumption))
def sp_l_change (K : PySem.W.Frag) : Sp := fun vs H Q _ => ∃ v r, vs = [v] ∧ IsR H v r ∧ Q (.bl true) H
theorem sc_l_change : FnScope ["_law_found"] ["_law_found"] (defScope s_l_change) := ⟨rfl, rfl, rfl, by decide +kernel, rfl, by decide +kernel, by decide +kernel⟩
theorem ok_l_change (T : FX K mg) : FnOk P w K mg base (L2N.CX P w) 2 (He.ga K "_law_change") (fdAt K ("_law_change", none)) ["_law_found"] (sp_l_change K) := by
  refine FunD.ok T.F_l_change sc_l_change (fun vs H Q E h => ?_) (fun cdv A outer s H vs Q E hr h => ?_)
  · (repeat (obtain ⟨_, h⟩ := h)); subst_vars; rfl
  · have hu := hu_of hr
    have hu64 := hr.units
    refine ⟨_,
      (pss_cons
        (ps_if (PW.pt (pw_or (pt_not (pt_val (pe_callB call_isi (by rfl) T.f_isinstance (by decide +kernel) (pa_cons (pv 0) (pa_cons (pe_bltT (n := "tuple") rfl T.f_tuple (by decide +kernel)) pa_nil))))) (pw_or1 (pt_cmpR oIne (pe_callB oLen (by rfl) T.f_len PySem.boot_len (pa_cons (pv 0) pa_nil)) pe_int (nomark _)))))
          (pss_one
            (ps_ret pe_bl))
          pss_nil)
      (pss_cons
        (ps_if (PW.pt (pw_or (pt_not (pt_val (pe_callS (ok_l_whole T) (hr.mono (j := 1) (by decide)) rfl T.g_l_whole T.k_l_whole T.b_l_whole (fun σ => L2N.passAt tkd σ) (pa_cons (pe_ix ix_tup (pv 0) pe_int (fun _ _ => rfl)) pa_nil)))) (pw_or1 (pt_not (pt_val (pe_callS (ok_l_whole T) (hr.mono (j := 1) (by decide)) rfl T.g_l_whole T.k_l_whole T.b_l_whole (fun σ => L2N.passAt tkd σ) (pa_cons (pe_ix ix_tup (pv 0) pe_int (fun _ _ => rfl)) pa_nil)))))))
          (pss_one
            (ps_ret pe_bl))
          pss_nil)
      (pss_one
        (ps_ret (pe_and (pe_callB call_isi (by rfl) T.f_isinstance (by decide +kernel) (pa_cons (pe_ix ix_tup (pv 0) pe_int (fun _ _ => rfl)) (pa_cons (pe_bltT (n := "str") rfl T.f_str (by decide +kernel)) pa_nil))) (pe_and (pe_callB call_isi (by rfl) T.f_isinstance (by decide +kernel) (pa_cons (pe_ix ix_tup (pv 0) pe_int (fun _ _ => rfl)) (pa_cons (pe_bltT (n := "str") rfl T.f_str (by decide +kernel)) pa_nil))) (pe_one (pe_callB call_isi (by rfl) T.f_isinstance (by decide +kernel) (pa_cons (pe_ix ix_tup (pv 0) pe_int (fun _ _ => rfl)) (pa_cons (pe_bltT (n := "str") rfl T.f_str (by decide +kernel)) pa_nil)))))))))), ?_⟩
    obtain ⟨v, r, rfl, ⟨t, rfl, ht⟩, k⟩ := h
    repeat wtm_at "k"
    refine k_ifnd (fun z => absurd (show ((5 : Nat) : Int) = 5 from rfl) z) fun _ => ?_
    repeat wtm_at "k"
    exact k
def sp_l_changes (K : PySem.W.Frag) : Sp := fun vs H Q _ => ∃ f d ys zs rs, vs = [.ref f, .ref d] ∧ H f = some (.lst ys) ∧ SqL K H d zs ∧ Paired (IsR H) ys rs ∧ Paired (IsR H) zs rs ∧ ∀ H', Ext [f] H H' → H' f = some (.lst []) → Q (.bl true) H'
theorem sc_l_changes : FnScope ["_law_found", "_law_due", "_law_one", "_law_good"] ["_law_found", "_law_due"] (defScope s_l_changes) := ⟨rfl, rfl, rfl, by decide +kernel, rfl, by decide +kernel, by decide +kernel⟩
theorem ok_l_changes (T : FX K mg) : FnOk P w K mg base (L2N.CX P w) 3 (He.ga K "_law_changes") (fdAt K ("_law_changes", none)) ["_law_found", "_law_due"] (sp_l_changes K) := by
  refine FunD.ok T.F_l_changes sc_l_changes (fun vs H Q E h => ?_) (fun cdv A outer s H vs Q E hr h => ?_)
  · (repeat (obtain ⟨_, h⟩ := h)); subst_vars; rfl
  · have hu := hu_of hr
    have hu64 := hr.units
    refine ⟨_,
      (pss_cons
        (ps_if (PW.pt (pw_or (pt_not (pt_val (pe_callB call_isi (by rfl) T.f_isinstance (by decide +kernel) (pa_cons (pv 0) (pa_cons (pe_bltT (n := "list") rfl T.f_list (by decide +kernel)) pa_nil))))) (pw_or1 (pt_cmpR oIne (pe_callB oLen (by rfl) T.f_len PySem.boot_len (pa_cons (pv 0) pa_nil)) (pe_callB oLen (by rfl) T.f_len PySem.boot_len (pa_cons (pv 1) pa_nil)) (nomark _)))))
          (pss_one
            (ps_ret pe_bl))
          pss_nil)
      (pss_cons
        (ps_for pod rfl (pi_list (pv 0)) (pg_name (i := 2) sc_l_changes.nd rfl (Or.inl rfl))
          (pss_one
            (ps_if (pt_not (pt_val (pe_callS (ok_l_change T) (hr.mono (j := 2) (by decide)) rfl T.g_l_change T.k_l_change T.b_l_change (fun σ => L2N.passAt tkd σ) (pa_cons (pv 2) pa_nil))))
              (pss_one
                (ps_ret pe_bl))
              pss_nil)))
      (pss_cons
        (ps_set (i := 3) sc_l_changes.nd rfl (Or.inl rfl) (pe_cmpR (op_eqD hu64) (pv 0) (pv 1) (nomark _)))
      (pss_cons
        (ps_expr (pe_bm0 PySem.F.plainAttrs_list PySem.F.slot_list_clear PySem.F.type_list_clear mt_clear (pv 0)))
      (pss_one
        (ps_ret (pv 3))))))), ?_⟩
    obtain ⟨f, d, ys, zs, rs, rfl, hf, hd, py, pz, k⟩ := h
    have R0 : Run [f] H H := Run.start (by wtm_at "lv")
    have len : ys.length = zs.length := by rw [Paired.length py, Paired.length pz]
    repeat wtm_at "k"
    refine k_ifnd (fun c => absurd (congrArg Nat.cast len) c) fun _ => ?_
    repeat wtm_at "k"
    refine l_for (xs := ys) (SqL.of hf) (fun i σ' H4 => H4 = H ∧ ∃ v2, σ' = [some (.ref f), some (.ref d), v2, none]) ⟨rfl, _, rfl⟩ (fun i σ' H4 _ q => by rw [q.1]; exact SqL.of hf) (fun i x σ' H4 ex q => ?_) fun σ' H4 q => ?_
    · obtain ⟨rfl, v2, rfl⟩ := q
      obtain ⟨r, er, hr⟩ := getT py ex
      repeat wtm_at "k"
      refine ⟨_, r, rfl, hr, ?_⟩
      repeat wtm_at "k"
      exact ⟨rfl, _, rfl⟩
    · obtain ⟨rfl, v2, rfl⟩ := q
      repeat wtm_at "k"
      refine l_eqT fR_plain (by wtm_at "sq") (by wtm_at "sq") py pz ?_
      repeat wtm_at "k"
      exact k _ (Run.ext (by assumption)) (by wtm_at "hf")
def sp_l_pairs (K : PySem.W.Frag) : Sp := fun vs H Q _ => ∃ f d ys zs rs, vs = [.ref f, .ref d] ∧ H f = some (.lst ys) ∧ SqL K H d zs ∧ Paired (IsS H) ys rs ∧ Paired (IsS H) zs rs ∧ ∀ H', Ext [f] H H' → H' f = some (.lst []) → Q (.bl true) H'
theorem sc_l_pairs : FnScope ["_law_found", "_law_due", "_law_one", "_law_good"] ["_law_found", "_law_due"] (defScope s_l_pairs) := ⟨rfl, rfl, rfl, by decide +kernel, rfl, by decide +kernel, by decide +kernel⟩
theorem ok_l_pairs (T : FX K mg) : FnOk P w K mg base (L2N.CX P w) 1 (He.ga K "_law_pairs") (fdAt K ("_law_pairs", none)) ["_law_found", "_law_due"] (sp_l_pairs K) := by
  refine FunD.ok T.F_l_pairs sc_l_pairs (fun vs H Q E h => ?_) (fun cdv A outer s H vs Q E hr h => ?_)
  · (repeat (obtain ⟨_, h⟩ := h)); subst_vars; rfl
  · have hu := hu_of hr
    have hu64 := hr.units
    refine ⟨_,
      (pss_cons
        (ps_if (PW.pt (pw_or (pt_not (pt_val (pe_callB call_isi (by rfl) T.f_isinstance (by decide +kernel) (pa_cons (pv 0) (pa_cons (pe_bltT (n := "list") rfl T.f_list (by decide +kernel)) pa_nil))))) (pw_or1 (pt_cmpR oIne (pe_callB oLen (by rfl) T.f_len PySem.boot_len (pa_cons (pv 0) pa_nil)) (pe_callB oLen (by rfl) T.f_len PySem.boot_len (pa_cons (pv 1) pa_nil)) (nomark _)))))
          (pss_one
            (ps_ret pe_bl))
          pss_nil)
      (pss_cons
        (ps_for pod rfl (pi_list (pv 0)) (pg_name (i := 2) sc_l_pairs.nd rfl (Or.inl rfl))
          (pss_cons
            (ps_if (PW.pt (pw_or (pt_not (pt_val (pe_callB call_isi (by rfl) T.f_isinstance (by decide +kernel) (pa_cons (pv 2) (pa_cons (pe_bltT (n := "tuple") rfl T.f_tuple (by decide +kernel)) pa_nil))))) (pw_or1 (pt_cmpR oIne (pe_callB oLen (by rfl) T.f_len PySem.boot_len (pa_cons (pv 2) pa_nil)) pe_int (nomark _)))))
              (pss_one
                (ps_ret pe_bl))
              pss_nil)
          (pss_one
            (ps_if (PW.pt (pw_or (pt_not (pt_val (pe_callB call_isi (by rfl) T.f_isinstance (by decide +kernel) (pa_cons (pe_ix ix_tup (pv 2) pe_int (fun _ _ => rfl)) (pa_cons (pe_bltT (n := "str") rfl T.f_str (by decide +kernel)) pa_nil))))) (pw_or1 (pt_not (pt_val (pe_callB call_isi (by rfl) T.f_isinstance (by decide +kernel) (pa_cons (pe_ix ix_tup (pv 2) pe_int (fun _ _ => rfl)) (pa_cons (pe_bltT (n := "str") rfl T.f_str (by decide +kernel)) pa_nil))))))))
              (pss_one
                (ps_ret pe_bl))
              pss_nil))))
      (pss_cons
        (ps_set (i := 3) sc_l_pairs.nd rfl (Or.inl rfl) (pe_cmpR (op_eqD hu64) (pv 0) (pv 1) (nomark _)))
      (pss_cons
        (ps_expr (pe_bm0 PySem.F.plainAttrs_list PySem.F.slot_list_clear PySem.F.type_list_clear mt_clear (pv 0)))
      (pss_one
        (ps_ret (pv 3))))))), ?_⟩
    obtain ⟨f, d, ys, zs, rs, rfl, hf, hd, py, pz, k⟩ := h
    have R0 : Run [f] H H := Run.start (by wtm_at "lv")
    have len : ys.length = zs.length := by rw [Paired.length py, Paired.length pz]
    repeat wtm_at "k"
    refine k_ifnd (fun c => absurd (congrArg Nat.cast len) c) fun _ => ?_
    repeat wtm_at "k"
    refine l_for (xs := ys) (SqL.of hf) (fun i σ' H4 => H4 = H ∧ ∃ v2, σ' = [some (.ref f), some (.ref d), v2, none]) ⟨rfl, _, rfl⟩ (fun i σ' H4 _ q => by rw [q.1]; exact SqL.of hf) (fun i x σ' H4 ex q => ?_) fun σ' H4 q => ?_
    · obtain ⟨rfl, v2, rfl⟩ := q
      obtain ⟨r, er, hr⟩ := getT py ex
      obtain ⟨t, rfl, ht⟩ := hr
      repeat wtm_at "k"
      refine k_ifnd (fun z => absurd (show ((2 : Nat) : Int) = 2 from rfl) z) fun _ => ?_
      repeat wtm_at "k"
      exact ⟨rfl, _, rfl⟩
    · obtain ⟨rfl, v2, rfl⟩ := q
      repeat wtm_at "k"
      refine l_eqT fS_plain (by wtm_at "sq") (by wtm_at "sq") py pz ?_
      repeat wtm_at "k"
      exact k _ (Run.ext (by assumption)) (by wtm_at "hf")
end
end LW

set_option maxHeartbeats 4000000
namespace LW
open PySem PySem.Spec PyProof.Rows L2
local macro_rules | `(tactic| wtm_at "vk") => `(tactic| first
  | assumption
  | with_reducible exact rv_kept_told
  | exact valV_sv (by assumption)
  | exact valV_iv (by assumption)
  | fail)
local macro_rules | `(tactic| wtm_at "pk") => `(tactic| first
  | with_reducible exact putK_iv
  | with_reducible exact dropK_ik
  | with_reducible exact dropK_sk
  | with_reducible exact rp_kept_told
  | exact putK_sv
  | assumption
  | fail)
local macro_rules | `(tactic| wtm_at "rm") => `(tactic| first
  | with_reducible exact rm_kept
  | exact rfl
  | fail)
local macro_rules | `(tactic| wtm_at "rl") => `(tactic| first
  | with_reducible exact rl_kept
  | with_reducible assumption
  | fail)
local macro_rules | `(tactic| wtm_at "lk") => `(tactic| with_reducible first
  | exact lk_Ear_behind
  | exact lk_Ear_begun
  | exact lk_Ear_rows
  | fail)
local macro_rules | `(tactic| wtm_at "lm") => `(tactic| with_reducible first
  | exact lm_Ear_hear
  | exact lm_Ear_heard
  | exact lm_Ear_state
  | fail)
local macro_rules | `(tactic| wtm_at "pt") => `(tactic| with_reducible first
  | exact pt_Ear_behind
  | exact pt_Ear_begun
  | exact pt_Ear_rows
  | exact pi_Ear_0
  | exact pi_Ear_1
  | exact pi_Ear_2
  | fail)
local macro_rules | `(tactic| wtm_at "lz") => `(tactic| with_reducible first
  | exact lz_Ear
  | (simp only [List.length_cons, List.length_nil]; decide)
  | exact (by decide)
  | fail)
local macro_rules | `(tactic| wtm_at "hf") => `(tactic| first
  | assumption
  | (refine' hf_s ?hs ?hx; (case hs => assumption); (case hx => wtm_at "hf"))
  | (refine' hf_n ?hs ?hx ?ne; (case hs => assumption); (case hx => wtm_at "hf"); (case ne => wtm_at "ne"))
  | (refine' hf_e ?hs ?hx ?hy; (case hs => assumption); (case hx => wtm_at "hf"); (case hy => wtm_at "nin"))
  | fail)
local macro_rules | `(tactic| wtm_at "ne") => `(tactic| first
  | assumption
  | (apply Ne.symm; assumption)
  | (refine' ne_of_none ?hx ?hy; (case hy => assumption); (case hx => wtm_at "hf"))
  | (refine' (ne_of_none ?hx ?hy).symm; (case hy => assumption); (case hx => wtm_at "hf"))
  | (refine' ne_of ?hx ?hy ?hz; (case hx => assumption); (case hy => assumption); (case hz => intro z; cases z))
  | fail)
local macro_rules | `(tactic| wtm_at "nin") => `(tactic| first
  | assumption
  | exact notin_nil
  | (refine' notin_cons ?hx ?hy; (case hx => wtm_at "ne"); (case hy => wtm_at "nin"))
  | fail)
local macro_rules | `(tactic| wtm_at "mem") => `(tactic| first
  | assumption
  | exact List.mem_cons_self
  | (refine' List.mem_cons_of_mem _ ?hx; (case hx => wtm_at "mem"))
  | fail)
local macro_rules | `(tactic| wtm_at "wr") => `(tactic| first
  | exact Or.inr (by assumption)
  | exact Or.inl (by wtm_at "mem")
  | fail)
local macro_rules | `(tactic| wtm_at "lv") => `(tactic| first
  | assumption
  | exact Live.nil
  | (refine' Live.cons ?hx ?hy; (case hx => wtm_at "hf"); (case hy => wtm_at "lv"))
  | fail)
local macro_rules | `(tactic| wtm_at "run") => `(tactic| first
  | assumption
  | (refine' Run.same ?hx ?hy; (case hy => assumption); (case hx => wtm_at "run"))
  | fail)
local macro_rules | `(tactic| wtm_at "sq") => `(tactic| first
  | assumption
  | (refine' Run.seq ?hx ?hy; (case hx => assumption); (case hy => assumption))
  | (refine' SqL.of ?hx; (case hx => wtm_at "hf"))
  | (refine' Same.seq ?hx ?hy; (case hx => assumption); (case hy => wtm_at "sq"))
  | (refine' Ext.seqL ?hx ?hz ?hy; (case hx => assumption); (case hy => wtm_at "sq"); (case hz => wtm_at "nin"))
  | fail)
local macro_rules | `(tactic| wtm_at "st") => `(tactic| first
  | assumption
  | (refine' SqT.of ?hx; (case hx => wtm_at "hf"))
  | fail)
local macro_rules | `(tactic| wtm_at "ix") => `(tactic| first
  | assumption
  | exact rfl
  | fail)
local macro_rules | `(tactic| wtm_at "sz") => `(tactic| first
  | wtm_at "rl"
  | with_reducible assumption
  | (rw [ik_len]; wtm_at "sz")
  | (rw [sk_len]; wtm_at "sz")
  | exact smallM (by assumption)
  | exact smallM (by omega)
  | exact smallM (by simp only [List.length_cons, List.length_nil, List.length_append, List.length_map]; omega)
  | fail)
local macro_rules | `(tactic| wtm_at "tx") => `(tactic| first
  | assumption
  | ((with_reducible refine' Tx.app ?hx ?hy); (case hx => wtm_at "tx"); (case hy => wtm_at "tx"))
  | ((with_reducible refine' Tx.cut ?hx); (case hx => wtm_at "tx"))
  | with_reducible exact Tx.nil
  | fail)
local macro_rules | `(tactic| wtm_at "k") => `(tactic| first
  | with_reducible refine k_seq ?_
  | with_reducible refine k_next ?_
  | with_reducible refine k_asg ?_
  | with_reducible refine k_ret ?_
  | with_reducible refine k_retN ?_
  | with_reducible refine k_drop ?_
  | with_reducible refine k_ifS ?_
  | ((with_reducible refine' k_var ?hx ?_); (case hx => exact rfl))
  | with_reducible refine k_c ?_
  | with_reducible refine k_negc ?_
  | with_reducible refine k_neg ?_
  | with_reducible refine l_neg ?_
  | with_reducible refine k_op ?_
  | with_reducible refine k_cb ?_
  | with_reducible refine k_nil ?_
  | with_reducible refine k_cons ?_
  | with_reducible refine k_test ?_
  | with_reducible refine k_B ?_
  | with_reducible refine k_not ?_
  | with_reducible refine k_and ?_
  | with_reducible refine k_or ?_
  | with_reducible refine k_notV ?_
  | with_reducible refine k_andV ?_
  | with_reducible refine k_orV ?_
  | with_reducible refine k_bl ?_
  | with_reducible refine k_add ?_
  | with_reducible refine k_sub ?_
  | ((with_reducible refine' k_mod ?hx ?_); (case hx => first | decide | omega))
  | ((with_reducible refine' k_div ?hx ?_); (case hx => first | exact ⟨by decide, by decide⟩ | exact ⟨by omega, by omega⟩))
  | ((with_reducible refine' k_mul ?hx ?_); (case hx => first | exact Or.inl ⟨by decide, by decide⟩ | exact Or.inr ⟨by decide, by decide⟩ | exact Or.inl ⟨by omega, by omega⟩))
  | with_reducible refine k_p6 ?_
  | with_reducible refine k_p9 ?_
  | with_reducible refine k_p12 ?_
  | with_reducible refine k_p13 ?_
  | with_reducible refine k_p18 ?_
  | with_reducible refine k_p30 ?_
  | with_reducible refine k_lt ?_
  | with_reducible refine k_le ?_
  | with_reducible refine k_gt ?_
  | with_reducible refine k_ge ?_
  | with_reducible refine k_eq ?_
  | with_reducible refine k_ne ?_
  | with_reducible refine k_seqS ?_
  | with_reducible refine k_neS ?_
  | with_reducible refine k_neB ?_
  | with_reducible refine k_isN ?_
  | with_reducible refine k_noN ?_
  | with_reducible refine k_fld ?_
  | ((with_reducible refine' l_fld ?hx ?hy ?_); (case hx => wtm_at "hf"); (case hy => wtm_at "lk"))
  | with_reducible refine k_fldS ?_
  | ((with_reducible refine' l_fldS ?hr ?hx ?hz ?hy ?hw ?_); (case hr => wtm_at "run"); (case hx => wtm_at "hf"); (case hy => wtm_at "pt"); (case hz => wtm_at "lz"); (case hw => wtm_at "wr"); intro _ _ _ _)
  | ((with_reducible refine' l_new ?hr ?_); (case hr => wtm_at "run"); intro _ _ _ _ _ _ _ _)
  | with_reducible refine k_append ?_
  | ((with_reducible refine' l_tyL ?hx ?_); (case hx => wtm_at "hf"))
  | ((with_reducible refine' l_ins ?hx ?hy ?_); (case hx => wtm_at "hf"); (case hy => wtm_at "lm"))
  | with_reducible refine k_methS ?_
  | with_reducible refine k_methG ?_
  | with_reducible refine k_makeG ?_
  | with_reducible refine k_meth0 ?_
  | with_reducible refine k_callS ?_
  | with_reducible refine k_callE ?_
  | with_reducible refine k_dget ?_
  | with_reducible refine k_din ?_
  | with_reducible refine k_dnotin ?_
  | with_reducible refine k_dput ?_
  | with_reducible refine k_dpop ?_
  | with_reducible refine k_dget2 ?_
  | with_reducible refine k_tup ?_
  | with_reducible refine k_lst ?_
  | with_reducible refine k_dnew ?_
  | ((with_reducible refine' l_tup ?hx ?_); (case hx => simp only [List.length_cons, List.length_nil]; decide))
  | ((with_reducible refine' l_lst ?hx ?_); (case hx => simp only [List.length_cons, List.length_nil]; decide))
  | ((with_reducible refine' l_isD ?hx ?_); (case hx => wtm_at "hf"))
  | ((with_reducible refine' l_dinI ?hx ?_); (case hx => wtm_at "hf"))
  | ((with_reducible refine' l_dinS ?hx ?_); (case hx => wtm_at "hf"))
  | ((with_reducible refine' l_dnotinI ?hx ?_); (case hx => wtm_at "hf"))
  | ((with_reducible refine' l_dnotinS ?hx ?_); (case hx => wtm_at "hf"))
  | ((with_reducible refine' l_dputI ?hr ?hx ?hz ?hy ?hw ?_); (case hr => wtm_at "run"); (case hx => wtm_at "hf"); (case hy => wtm_at "pk"); (case hz => wtm_at "sz"); (case hw => wtm_at "wr"); intro _ _ _ _)
  | ((with_reducible refine' l_dputS ?hr ?hx ?hz ?hy ?hw ?_); (case hr => wtm_at "run"); (case hx => wtm_at "hf"); (case hy => wtm_at "pk"); (case hz => wtm_at "sz"); (case hw => wtm_at "wr"); intro _ _ _ _)
  | ((with_reducible refine' l_dpopI ?hr ?hx ?hz ?hy ?hw ?_); (case hr => wtm_at "run"); (case hx => wtm_at "hf"); (case hy => wtm_at "pk"); (case hz => wtm_at "vk"); (case hw => wtm_at "wr"); intro _ _ _ _)
  | ((with_reducible refine' l_dpopS ?hr ?hx ?hz ?hy ?hw ?_); (case hr => wtm_at "run"); (case hx => wtm_at "hf"); (case hy => wtm_at "pk"); (case hz => wtm_at "vk"); (case hw => wtm_at "wr"); intro _ _ _ _)
  | ((with_reducible refine' l_dgetI ?hx ?hz ?_); (case hx => wtm_at "hf"); (case hz => wtm_at "vk"))
  | ((with_reducible refine' l_dgetS ?hx ?hz ?_); (case hx => wtm_at "hf"); (case hz => wtm_at "vk"))
  | ((with_reducible refine' l_dgetIF ?hx ?hz ?_); (case hx => wtm_at "hf"); (case hz => wtm_at "vk"))
  | ((with_reducible refine' l_dgetSF ?hx ?hz ?_); (case hx => wtm_at "hf"); (case hz => wtm_at "vk"))
  | ((with_reducible refine' k_disp ?hr ?_); (case hr => wtm_at "run"); intro _ _ _ _ _ _ _ _)
  | with_reducible refine k_pcons ?_
  | with_reducible refine k_pnil ?_
  | ((with_reducible refine' l_disp ?hr ?hx ?hu ?hv ?hy ?hw ?_); (case hr => wtm_at "run"); (case hx => wtm_at "hf"); (case hu => exact rfl); (case hv => simp only [List.length_map, List.length_cons, List.length_nil]; decide); (case hy => wtm_at "rm"); (case hw => wtm_at "wr"); intro _ _ _ _)
  | ((with_reducible refine' l_append ?hr ?hx ?hz ?hw ?_); (case hr => wtm_at "run"); (case hx => wtm_at "hf"); (case hz => wtm_at "sz"); (case hw => wtm_at "wr"); intro _ _ _ _)
  | ((with_reducible refine' l_isEt ?hx ?_); (case hx => first | exact isD (ExcK.kit (by assumption) _ (by wtm_at "mem") _ (by wtm_at "mem")) | exact isC (ExcK.kit (by assumption) _ (by wtm_at "mem") _ (by wtm_at "mem")) (by decide)))
  | ((with_reducible refine' l_isEV ?hx ?_); (case hx => exact ExcK.kitV (by assumption) _ (by wtm_at "mem")))
  | ((with_reducible refine' l_isiI ?hx ?_); (case hx => first | rfl | assumption))
  | ((with_reducible refine' l_isiB ?hx ?_); (case hx => first | rfl | assumption))
  | with_reducible refine l_isiSS ?_
  | ((with_reducible refine' l_isiS ?hx ?_); (case hx => first | rfl | assumption))
  | ((with_reducible refine' l_isiL ?hx ?_); (case hx => wtm_at "hf"))
  | ((with_reducible refine' l_isiT ?hx ?_); (case hx => wtm_at "hf"))
  | ((with_reducible refine' l_lenL ?hx ?_); (case hx => wtm_at "sq"))
  | ((with_reducible refine' l_lenT ?hx ?_); (case hx => wtm_at "st"))
  | ((with_reducible refine' l_ixL ?hx ?hy ?_); (case hx => wtm_at "sq"); (case hy => wtm_at "ix"))
  | ((with_reducible refine' l_ixT ?hx ?hy ?_); (case hx => wtm_at "st"); (case hy => wtm_at "ix"))
  | with_reducible refine k_m1 ?_
  | with_reducible refine l_strX ?_
  | with_reducible refine l_sw ?_
  | ((with_reducible refine' x_addS ?hx ?hy ?hz ?_); (case hx => wtm_at "tx"); (case hy => wtm_at "tx"); (case hz => decide))
  | ((with_reducible refine' x_slS ?hx ?hz ?_); (case hx => wtm_at "tx"); (case hz => decide))
  | ((with_reducible refine' x_lenX ?hx ?hz ?_); (case hx => wtm_at "tx"); (case hz => decide))
  | with_reducible refine l_max ?_
  | with_reducible refine l_min ?_
  | with_reducible refine l_abs ?_
  | with_reducible refine k_sl ?_
  | with_reducible refine k_part ?_
  | with_reducible refine l_part ?_
  | with_reducible refine k_nopart ?_
  | with_reducible refine k_yes ?_
  | ((with_reducible refine' l_slL ?hr ?hx ?_); (case hr => wtm_at "run"); (case hx => wtm_at "sq"); intro _ _ _ _ _ _ _ _)
  | with_reducible refine k_lcL ?_
  | with_reducible refine k_lcR ?_
  | with_reducible refine k_for ?_
  | with_reducible refine k_rng1 ?_
  | with_reducible refine k_rng2 ?_
  | with_reducible refine k_rng3 ?_
  | with_reducible refine k_makeS ?_
  | ((with_reducible refine' l_make ?hr ?_); (case hr => wtm_at "run"); intro _ _ _ _ _ _ _ _ _)
  | with_reducible refine k_ntt ?_
  | with_reducible refine k_ntf ?_
  | with_reducible refine k_clear ?_
  | ((with_reducible refine' l_clear ?hr ?hx ?hw ?_); (case hr => wtm_at "run"); (case hx => wtm_at "hf"); (case hw => wtm_at "wr"); intro _ _ _ _)
  | with_reducible refine k_ift ?_
  | with_reducible refine k_iff ?_
  | with_reducible refine g_name ?_
  | with_reducible refine k_revL ?_
  | ((with_reducible refine' l_tupL ?hx ?_); (case hx => wtm_at "sq"))
  | with_reducible refine l_intB ?_
  | ((with_reducible refine' l_rev ?hx ?_); (case hx => wtm_at "sq"))
  | ((with_reducible refine' l_gT2 ?hn ?hx ?_); (case hn => exact rfl); (case hx => wtm_at "st"))
  | ((with_reducible refine' l_listL ?hx ?_); (case hx => wtm_at "sq"))
  | ((with_reducible refine' l_listT ?hx ?_); (case hx => wtm_at "st"))
  | fail)
local macro_rules | `(tactic| wtm_at "k") => `(tactic| first
  | with_reducible refine k_wholeI ?_
  | ((with_reducible refine' k_whole ?hx ?_); (case hx => first | rfl | assumption))
  | ((with_reducible refine' k_cell ?hx ?hy ?_); (case hx => first | decide | omega | assumption); (case hy => wtm_at "sq"))
  | fail)
section
variable {P : Program} {w : World} {K : PySem.W.Frag} {mg : Str → Option Value} {base : Heap}
theorem zero (G : List Addr) : Apart G [] := fun c _ z => by cases z
def sp_l_rows (K : PySem.W.Frag) : Sp := fun vs H Q _ => ∃ (a : Addr) (ns : List Int) (pp : Addr) (ts : List Str), vs = [.ref a, .ref pp] ∧ ns.length ≤ 63 ∧ SqL K H a (ns.map V.int) ∧ PoolAt H pp ts ∧
  ∀ l H' ys rs, H l = none → Ext [] H H' → H' l = some (.lst ys) → Paired (IsR H') ys rs → rs.length ≤ 200 → (∀ r ∈ rs, r.k ∈ ts) → Q (.ref l) H'
theorem sc_l_rows : FnScope ["_law_script", "_law_pool_here", "_law_cells", "_law_rows_here", "_law_number", "_law_cell", "_law_word", "_law_value", "_law_k"] ["_law_script", "_law_pool_here"] (defScope s_l_rows) := ⟨rfl, rfl, rfl, by decide +kernel, rfl, by decide +kernel, by decide +kernel⟩
theorem ok_l_rows (T : FX K mg) : FnOk P w K mg base (L2N.CX P w) 3 (He.ga K "_law_rows") (fdAt K ("_law_rows", none)) ["_law_script", "_law_pool_here"] (sp_l_rows K) := by
  refine FunD.ok T.F_l_rows sc_l_rows (fun vs H Q E h => ?_) (fun cdv A outer s H vs Q E hr h => ?_)
  · (repeat (obtain ⟨_, h⟩ := h)); subst_vars; rfl
  · have hu := hu_of hr
    have hu64 := hr.units
    refine ⟨_,
      (pss_cons
        (ps_set (i := 2) sc_l_rows.nd rfl (Or.inl rfl) (pe_slice sl_list (pv 0) (po_some pe_int) (po_some pe_int)))
      (pss_cons
        (ps_if (pt_cmpR oIeq (pe_op oImod (pe_callS (ok_l_cell_at T) (hr.mono (j := 1) (by decide)) rfl T.g_l_cell_at T.k_l_cell_at T.b_l_cell_at (fun σ => L2N.passAt tkd σ) (pa_cons (pv 0) (pa_cons pe_int pa_nil))) pe_int) pe_int (nomark _))
          (pss_one
            (ps_set (i := 2) sc_l_rows.nd rfl (Or.inl rfl) (pe_op op_cat (pv 2) (pe_lc (own := [("_law_k", 8)]) (g := gName 8) rfl sc_l_rows.nd (pi_range1 rfl T.f_range (pa_cons (pe_ix ix_list (pe_lst (pa_cons pe_int (pa_cons pe_int pa_nil))) (pe_op oImod (pe_op oIdiv (pe_callS (ok_l_cell_at T) (hr.mono (j := 1) (by decide)) rfl T.g_l_cell_at T.k_l_cell_at T.b_l_cell_at (fun σ => L2N.passAt tkd σ) (pa_cons (pv 0) (pa_cons pe_int pa_nil))) pe_int) pe_int) (fun _ _ => rfl)) pa_nil)) (blkOk_by (N := ["_law_script", "_law_pool_here", "_law_cells", "_law_rows_here", "_law_number", "_law_cell", "_law_word", "_law_value", "_law_k"]) (sc := defScope s_l_rows) (by decide +kernel)) (fun _ _ _ _ _ => (pg_name (i := 8) sc_l_rows.nd rfl (Or.inl rfl))) (fun _ _ _ _ _ => pts_nil) (fun _ _ _ _ _ => (pe_op oIadd (pe_op oImul (pe_op oImul pe_int (pv 8)) (pv 8)) pe_int))))))
          pss_nil)
      (pss_cons
        (ps_set (i := 3) sc_l_rows.nd rfl (Or.inl rfl) (pe_lst pa_nil))
      (pss_cons
        (ps_set (i := 4) sc_l_rows.nd rfl (Or.inl rfl) pe_int)
      (pss_cons
        (ps_for pod rfl (pi_list (pv 2)) (pg_name (i := 5) sc_l_rows.nd rfl (Or.inl rfl))
          (pss_cons
            (ps_set (i := 4) sc_l_rows.nd rfl (Or.inl rfl) (pe_op oIadd (pe_op oIadd (pv 4) pe_int) (pe_op oImod (pv 5) pe_int)))
          (pss_cons
            (ps_set (i := 6) sc_l_rows.nd rfl (Or.inl rfl) (pe_ix ix_list (pe_lst (pa_cons pe_str (pa_cons pe_str pa_nil))) (pe_op oIdiv (pe_op oImod (pe_op oIdiv (pv 5) pe_int) pe_int) pe_int) (fun _ _ => rfl)))
          (pss_cons
            (ps_set (i := 7) sc_l_rows.nd rfl (Or.inl rfl) (pe_ix ix_list (pe_lst (pa_cons pe_str (pa_cons (pe_callS (ok_l_text T) (hr.mono (j := 2) (by decide)) rfl T.g_l_text T.k_l_text T.b_l_text (fun σ => L2N.passAt tkd σ) (pa_cons (pv 5) (pa_cons (pe_op oImod (pv 5) pe_int) pa_nil))) pa_nil))) (pe_callTy oInt (by rfl) T.f_int boot_int (pa_cons (pe_cmpR oSeq (pv 6) pe_str (nomark _)) pa_nil)) (fun _ _ => rfl)))
          (pss_one
            (ps_expr (pe_bm PySem.F.plainAttrs_list PySem.F.slot_list_append PySem.F.type_list_append mt_append (pv 3) (pa_cons (pe_tup (pa_cons (pv 4) (pa_cons (pe_op oImod (pv 5) pe_int) (pa_cons (pv 6) (pa_cons (pe_ix ix_list (pv 1) (pe_op oImod (pe_op oIdiv (pv 5) pe_int) pe_int) (fun _ _ => rfl)) (pa_cons (pv 7) pa_nil)))))) pa_nil))))))))
      (pss_one
        (ps_ret (pv 3)))))))), ?_⟩
    obtain ⟨a, ns, pp, ts, rfl, zn, hS, hpp, k⟩ := h
    have R0 : Run [] H H := Run.start Live.nil
    repeat wtm_at "k"
    rename_i lc H1 u1 u2 u3 r1 g1 s1
    obtain ⟨n0, en⟩ : ∃ n0 : List Int, cutV (ns.map V.int) (some 3) (some 63) = n0.map V.int ∧ n0.length ≤ 63 := by
      refine ⟨(ns.drop (HT.sIx ns.length 0 (some 3))).take (HT.sIx ns.length ns.length (some 63) - HT.sIx ns.length 0 (some 3)), ?_, ?_⟩
      · unfold cutV
        rw [List.length_map, List.map_take, List.map_drop]
      · rw [List.length_take, List.length_drop]; omega
    rw [en.1] at g1
    refine k_fork (fun σ' H' => ∃ (lc : Addr) (ms : List Int), σ' = [some (.ref a), some (.ref pp), some (.ref lc), none, none, none, none, none, none] ∧ Run [] H H' ∧ H' lc = some (.lst (ms.map V.int)) ∧ ms.length ≤ 200) (fun nx' ky => ?_) ?_
    · refine k_ifd (fun c1 => ?_) fun c1 => ?_
      · obtain ⟨d, ed, hd⟩ : ∃ d, atI (([30, 130] : List Int).map V.int) (cellD ns 2 / 3 % 2) = some (.int d) ∧ 0 ≤ d ∧ d ≤ 130 := by
          have h : cellD ns 2 / 3 % 2 = 0 ∨ cellD ns 2 / 3 % 2 = 1 := by omega
          rcases h with h | h <;> rw [h] <;> exact ⟨_, rfl, by omega, by omega⟩
        repeat wtm_at "k"
        refine l_lcR (j := 8) (by omega) (by omega) (fun i acc _ => ∃ ms : List Int, acc = ms.map V.int ∧ ms.length = i) ⟨[], rfl, rfl⟩ (fun _ _ _ _ _ z => z) (fun i acc H3 R R0' hi e3 hl hP q1 q0 => ?_) (fun D H3 acc nD e3 hD lD hP => ?_)
        · obtain ⟨ms, rfl, em⟩ := hP
          repeat wtm_at "k"
          exact q1 _ _ (Ext.refl _ _) ⟨ms ++ [_], by rw [List.map_append]; rfl, by rw [List.length_append, em]; rfl⟩
        · obtain ⟨ms, rfl, em⟩ := hP
          refine l_cat (xs := n0.map V.int) (by wtm_at "hf") hD (by rw [List.length_map, List.length_map]; omega) ?_
          repeat wtm_at "k"
          rename_i lD H4 w1 w2 w3 r4 g4 s4
          exact ky _ _ ⟨_, n0 ++ ms, rfl, r4, by rw [List.map_append]; exact g4, by rw [List.length_append]; omega⟩
      · repeat wtm_at "k"
        exact ky _ _ ⟨_, _, rfl, r1, g1, by omega⟩
    · rintro _ H2 ⟨lc, ms, rfl, r2, g2, zm⟩
      repeat wtm_at "k"
      rename_i l H3 v1 v2 v3 r3 g3 s3
      have g23 : H3 lc = some (.lst (ms.map V.int)) := by wtm_at "hf"
      refine l_for (xs := ms.map V.int) (SqL.of g23) (fun i σ' H' => ∃ x4 x5 x6 x7 ys rs, σ' = [some (.ref a), some (.ref pp), some (.ref lc), some (.ref l), some (.int x4), x5, x6, x7, none] ∧ Run [] H H' ∧ H' lc = some (.lst (ms.map V.int)) ∧ H' l = some (.lst ys) ∧ Paired (IsR H') ys rs ∧ rs.length ≤ i ∧ ∀ r ∈ rs, r.k ∈ ts) ?h0 ?hl ?hs ?hd
      case h0 => exact ⟨_, _, _, _, _, _, rfl, r3, g23, g3, .nil, Nat.le_refl _, fun _ z => by cases z⟩
      case hl => exact fun i σ' H' _ ⟨_, _, _, _, _, _, _, _, h, _⟩ => SqL.of h
      case hs =>
        intro i x σ' H4 ex ⟨x4, x5, x6, x7, ys, rs, es, r4, h4, g4, hp, hl, hk⟩
        subst es
        obtain ⟨cell, ec, rfl⟩ := getM ex
        have hi : i < ms.length := by
          rcases Nat.lt_or_ge i ms.length with z | z
          · exact z
          · rw [List.getElem?_eq_none z] at ec; cases ec
        have la := Paired.length hp
        have hpp2 : H4 pp = some (.lst (ts.map V.str)) := r4.ext.keep _ _ hpp.at' (by simp)
        obtain ⟨wd, ew, xw⟩ := ixTx (m := 1000) (xs := ["put", "cut"]) (n := cell / 3 % 3 / 2) (by omega) (by show _ < (2 : Int); omega) (txA (by decide +kernel))
        obtain ⟨c0, ek, mc⟩ := atI_mem (xs := ts.map V.str) (n := cell / 9 % 6) (by omega) (by rw [List.length_map, hpp.len]; omega)
        obtain ⟨key, mk, rfl⟩ := List.mem_map.mp mc
        repeat wtm_at "k"
        refine ⟨_, _, rfl, by omega, by omega, fun v H5 tv e5 => ?_⟩
        have r5 : Run [] H H5 := Run.same (by assumption) e5
        obtain ⟨val, ev, xv⟩ := ixTx (m := 1000) (xs := ["", v]) (n := if decide (wd = "put") = true then 1 else 0) (by split <;> omega) (by show _ < (2 : Int); split <;> omega) (by
          intro s hs
          simp only [List.mem_cons, List.not_mem_nil, or_false] at hs
          rcases hs with rfl | rfl
          · exact Tx.nil.mono (by decide)
          · exact tv.mono (by decide))
        repeat wtm_at "k"
        rename_i t H6 w1 w2 w3 r6 g6 s6 H7 r7 g7 n7
        refine ⟨_, _, _, _, _, rs ++ [⟨x4 + 1 + cell % 3, cell % 1000, wd, key, val, xw, (hpp.tx key mk).mono (by decide), xv⟩], rfl, r7, by wtm_at "hf", g7, snocT (keepT (fun a xs h => by wtm_at "hf") hp) ⟨t, rfl, by wtm_at "hf"⟩, by rw [List.length_append]; simp; omega, fun r hm => ?_⟩
        rcases List.mem_append.mp hm with hm | hm
        · exact hk r hm
        · rw [List.mem_singleton.mp hm]; exact mk
      case hd =>
        rintro σ' H4 ⟨x4, x5, x6, x7, ys, rs, rfl, r4, h4, g4, hp, hl, hk⟩
        rw [List.length_map] at hl
        repeat wtm_at "k"
        exact k l H4 ys rs (r2.ext.free (by assumption) (by simp)) r4.ext g4 hp (by omega) hk
def sp_l_state (K : PySem.W.Frag) : Sp := fun vs H Q _ => ∃ a b xs ys gs rs, vs = [.ref a, .ref b] ∧ H a = some (.lst xs) ∧ H b = some (.lst ys) ∧ Paired (IsS H) xs gs ∧ Paired (IsR H) ys rs ∧ gs.length + rs.length ≤ 1000000 ∧ (stAll gs rs).length < 64 ∧
  ∀ l H' ys, H l = none → Ext [] H H' → H' l = some (.lst ys) → Paired (IsS H') ys (sortedPairs (stAll gs rs)) → Q (.ref l) H'
theorem sc_l_state : FnScope ["_law_given", "_law_taken", "_law_found", "_law_one", "_law_row", "_law_key"] ["_law_given", "_law_taken"] (defScope s_l_state) := ⟨rfl, rfl, rfl, by decide +kernel, rfl, by decide +kernel, by decide +kernel⟩
theorem ok_l_state (T : FX K mg) : FnOk P w K mg base (L2N.CX P w) 1 (He.ga K "_law_state") (fdAt K ("_law_state", none)) ["_law_given", "_law_taken"] (sp_l_state K) := by
  refine FunD.ok T.F_l_state sc_l_state (fun vs H Q E h => ?_) (fun cdv A outer s H vs Q E hr h => ?_)
  · (repeat (obtain ⟨_, h⟩ := h)); subst_vars; rfl
  · have hu := hu_of hr
    have hu64 := hr.units
    refine ⟨_,
      (pss_cons
        (ps_set (i := 2) sc_l_state.nd rfl (Or.inr rfl) pe_dnewK)
      (pss_cons
        (ps_for pod rfl (pi_list (pv 0)) (pg_name (i := 3) sc_l_state.nd rfl (Or.inl rfl))
          (pss_one
            (ps_dput hu (pv 2) (pe_ix ix_tup (pv 3) pe_int (fun _ _ => rfl)) (pe_ix ix_tup (pv 3) pe_int (fun _ _ => rfl)) rfl)))
      (pss_cons
        (ps_for pod rfl (pi_list (pv 1)) (pg_name (i := 4) sc_l_state.nd rfl (Or.inl rfl))
          (pss_one
            (ps_if (pt_cmpR oSeq (pe_ix ix_tup (pv 4) pe_int (fun _ _ => rfl)) pe_str (nomark _))
              (pss_one
                (ps_dput hu (pv 2) (pe_ix ix_tup (pv 4) pe_int (fun _ _ => rfl)) (pe_ix ix_tup (pv 4) pe_int (fun _ _ => rfl)) rfl))
              (pss_one
                (ps_if (pt_cmp (pc_din hu (pe_ix ix_tup (pv 4) pe_int (fun _ _ => rfl)) (pv 2)))
                  (pss_one
                    (ps_expr (pe_dpop1 (pv 2) (pe_ix ix_tup (pv 4) pe_int (fun _ _ => rfl)) ⟨rfl, rfl, rfl, rfl⟩)))
                  pss_nil)))))
      (pss_one
        (ps_ret (pe_lc (own := [("_law_key", 5)]) (g := gName 5) rfl sc_l_state.nd (pi_list (pe_callB (oSortedD rfl) (by rfl) T.f_sorted (by decide +kernel) (pa_cons (pv 2) pa_nil))) (blkOk_by (N := ["_law_given", "_law_taken", "_law_found", "_law_one", "_law_row", "_law_key"]) (sc := defScope s_l_state) (by decide +kernel)) (fun _ _ _ _ _ => (pg_name (i := 5) sc_l_state.nd rfl (Or.inl rfl))) (fun _ _ _ _ _ => pts_nil) (fun _ _ _ _ _ => (pe_tup (pa_cons (pv 5) (pa_cons (pe_dget hu (pv 2) (pv 5) (fun _ _ => rfl)) pa_nil)))))))))), ?_⟩
    obtain ⟨a, b, xs, ys, gs, rs, rfl, h2, h3, h4, h5, zz, z64, k⟩ := h
    have R0 : Run [] H H := Run.start Live.nil
    repeat wtm_at "k"
    rename_i d H1 u1 u2 u3 r1 g1 s1
    have txb : ∀ i, PTx ((gs.take i).foldl (fun l (p : SS) => aput l p.k p.v) []) := fun i => stBeg_tx fun _ z => by cases z
    have lb := Paired.length h4
    have lr := Paired.length h5
    have len1 : ∀ (b : List SS) (l : List (Str × Str)), (b.foldl (fun l (p : SS) => aput l p.k p.v) l).length ≤ l.length + b.length := by
      intro b
      induction b with
      | nil => exact fun l => Nat.le_refl _
      | cons p b ih =>
        intro l
        refine Nat.le_trans (ih _) ?_
        have := length_aput (l := l) (k := p.k) (v := p.v)
        show (aput l p.k p.v).length + b.length ≤ l.length + (b.length + 1)
        omega
    have len2 : ∀ (b : List Row) (l : List (Str × Str)), (b.foldl stEv l).length ≤ l.length + b.length := by
      intro b
      induction b with
      | nil => exact fun l => Nat.le_refl _
      | cons r b ih =>
        intro l
        refine Nat.le_trans (ih _) ?_
        have : (stEv l r).length ≤ l.length + 1 := by
          unfold stEv
          split
          · exact length_aput
          · exact Nat.le_succ_of_le length_adrop
        show _ ≤ l.length + (b.length + 1)
        omega
    refine l_for (xs := xs) (SqL.of (by wtm_at "hf")) (fun i σ' H' => ∃ x3, σ' = [some (.ref a), some (.ref b), some (.ref d), x3, none, none] ∧ Run [] H H' ∧ H' d = some (.dK (sk sv ((gs.take i).foldl (fun l (p : SS) => aput l p.k p.v) [])))) ?h0 ?hl ?hs ?hd
    case h0 => exact ⟨_, rfl, r1, by wtm_at "hf"⟩
    case hl => exact fun i σ' H' _ ⟨_, _, r, _⟩ => SqL.of (r.ext.keep _ _ h2 (by simp))
    case hs =>
      intro i x σ' H' ex ⟨x3, es, r2, g2⟩
      subst es
      obtain ⟨q, eq, t, rfl, ht⟩ := getT h4 ex
      have ht' : H' t = some (.tup (fS q)) := r2.ext.tups _ _ ht
      have zl := len1 (gs.take i) []
      have z2 := List.length_take_le' i gs
      have zd : (sk sv ((gs.take i).foldl (fun l (p : SS) => aput l p.k p.v) [])).length < sizeLine := by rw [sk_len]; exact smallM (by simp at zl; omega)
      rw [show (gs.take (i + 1)).foldl (fun l (p : SS) => aput l p.k p.v) [] = aput ((gs.take i).foldl (fun l (p : SS) => aput l p.k p.v) []) q.k q.v from foldl_snoc eq]
      generalize (gs.take i).foldl (fun l (p : SS) => aput l p.k p.v) [] = l at *
      repeat wtm_at "k"
      rename_i H3 r3 g3 n3
      exact ⟨_, rfl, r3, g3⟩
    case hd =>
      rintro σ' H' ⟨x3, rfl, r2, g2⟩
      have e : gs.take xs.length = gs := by rw [lb, List.take_length]
      rw [e] at g2
      have b3 := r2.ext.keep _ _ h3 (by simp)
      repeat wtm_at "k"
      refine l_for (xs := ys) (SqL.of b3) (fun i σ' H' => ∃ x4, σ' = [some (.ref a), some (.ref b), some (.ref d), x3, x4, none] ∧ Run [] H H' ∧ H' d = some (.dK (sk sv ((rs.take i).foldl stEv (stBeg gs))))) ?h0 ?hl ?hs ?hd
      case h0 => exact ⟨_, rfl, r2, g2⟩
      case hl => exact fun i σ' H' _ ⟨_, _, r, _⟩ => SqL.of (r.ext.keep _ _ h3 (by simp))
      case hs =>
        intro i x σ' H3 ex ⟨x4, es, r3, g3⟩
        subst es
        obtain ⟨r, er, t, rfl, ht⟩ := getT h5 ex
        have ht' : H3 t = some (.tup (fR r)) := r3.ext.tups _ _ ht
        have zl := len2 (rs.take i) (stBeg gs)
        have zl1 : (stBeg gs).length ≤ 0 + gs.length := len1 gs []
        have z2 := List.length_take_le' i rs
        have zd : (sk sv ((rs.take i).foldl stEv (stBeg gs))).length < sizeLine := by rw [sk_len]; exact smallM (by omega)
        rw [foldl_snoc er]
        generalize (rs.take i).foldl stEv (stBeg gs) = l at *
        unfold stEv
        repeat wtm_at "k"
        refine k_ifd (fun cc => ?_) fun cc => ?_
        · rw [if_pos cc]
          repeat wtm_at "k"
          rename_i H4 r4 g4 n4
          exact ⟨_, rfl, r4, g4⟩
        · rw [if_neg cc]
          repeat wtm_at "k"
          rw [valV_sk]
          cases ca : aget l r.k with
          | none =>
            refine k_iff (k_next ⟨_, rfl, r3, ?_⟩)
            rw [adrop_none ca]
            exact g3
          | some v =>
            refine k_ift ?_
            repeat wtm_at "k"
            rename_i H4 r4 g4 n4
            exact ⟨_, rfl, r4, g4⟩
      case hd =>
        rintro σ' H3 ⟨x4, rfl, r3, g3⟩
        have e : rs.take ys.length = rs := by rw [lr, List.take_length]
        rw [e] at g3
        have g3 : H3 d = some (.dK (sk sv (stAll gs rs))) := g3
        repeat wtm_at "k"
        have tx : PTx (stAll gs rs) := stAll_tx
        refine l_sortedD r3 g3 z64 fun l H4 v1 v2 v3 r4 g4 s4 => ?_
        have g3' : H4 d = some (.dK (sk sv (stAll gs rs))) := s4 _ _ g3
        unfold sortedPairs at k
        generalize hks : sortS ((stAll gs rs).map (·.1)) = ks at *
        have mk : ∀ y ∈ ks, ∃ v, aget (stAll gs rs) y = some v := by
          intro y hy
          rw [← hks] at hy
          have := (sortS_perm _).mem_iff.mp hy
          cases ca : aget (stAll gs rs) y with
          | none => exact absurd this (aget_none.mp ca)
          | some v => exact ⟨v, rfl⟩
        refine l_lcL (j := 5) (xs := ks.map V.str) (SqL.of g4) ?_ (fun i acc H' => Paired (IsS H') acc ((ks.take i).map fun y => ssOf (y, (aget (stAll gs rs) y).getD Str.empty))) .nil (fun i acc H1 H2 t h => keepT t h) (fun i x acc H5 R R0' ex e5 hl hP q1 q0 => ?_) (fun D H5 acc nD e5 hD lD hP => ?_)
        · have : ks.length = (stAll gs rs).length := by rw [← hks, (sortS_perm _).length_eq, List.length_map]
          rw [List.length_map, this]
          exact smallM (by omega)
        · obtain ⟨y, ey, rfl⟩ := getM ex
          obtain ⟨v, ev⟩ := mk y (List.mem_of_getElem? ey)
          have g5 : H5 d = some (.dK (sk sv (stAll gs rs))) := e5.keep _ _ g3' (by simp)
          have ve := valV_sv ev
          have R5 : Run [] H5 H5 := Run.start Live.nil
          repeat wtm_at "k"
          rename_i t H6 w1 w2 w3 r6 g6 s6
          refine q1 _ _ r6.ext ?_
          rw [take_map_snoc ey]
          refine snocT (keepT r6.ext.tups hP) ⟨t, rfl, ?_⟩
          rw [ev, Option.getD_some, ssOf_eq (tx _ (aget_some_mem ev))]
          exact g6
        · refine k D H5 acc (r4.ext.free nD (by simp)) (r4.ext.trans e5) hD ?_
          have e : ks.take (ks.map V.str).length = ks := by rw [List.length_map, List.take_length]
          rw [e] at hP
          exact hP
def sp_l_begin (K : PySem.W.Frag) : Sp := fun vs H Q _ => ∃ pp ts c, vs = [.ref pp, .int c] ∧ PoolAt H pp ts ∧
  ∀ l H' xs gs, H l = none → Ext [] H H' → H' l = some (.lst xs) → Paired (IsS H') xs gs → gs.length ≤ 5 → (∀ p ∈ gs, p.k ∈ ts) → Q (.ref l) H'
theorem sc_l_begin : FnScope ["_law_pool_here", "_law_cell", "_law_given", "_law_k", "_law_one"] ["_law_pool_here", "_law_cell"] (defScope s_l_begin) := ⟨rfl, rfl, rfl, by decide +kernel, rfl, by decide +kernel, by decide +kernel⟩
theorem ok_l_begin (T : FX K mg) : FnOk P w K mg base (L2N.CX P w) 3 (He.ga K "_law_begin") (fdAt K ("_law_begin", none)) ["_law_pool_here", "_law_cell"] (sp_l_begin K) := by
  refine FunD.ok T.F_l_begin sc_l_begin (fun vs H Q E h => ?_) (fun cdv A outer s H vs Q E hr h => ?_)
  · (repeat (obtain ⟨_, h⟩ := h)); subst_vars; rfl
  · have hu := hu_of hr
    have hu64 := hr.units
    refine ⟨_,
      (pss_cons
        (ps_set (i := 2) sc_l_begin.nd rfl (Or.inl rfl) (pe_lst pa_nil))
      (pss_cons
        (ps_for pod rfl (pi_range1 rfl T.f_range (pa_cons (pe_op oImod (pv 1) pe_int) pa_nil)) (pg_name (i := 3) sc_l_begin.nd rfl (Or.inl rfl))
          (pss_one
            (ps_if (pt_cmpR op_notIn_seq (pe_ix ix_list (pv 0) (pv 3) (fun _ _ => rfl)) (pe_lc (own := [("_law_one", 4)]) (g := gName 4) rfl sc_l_begin.nd (pi_list (pv 2)) (blkOk_by (N := ["_law_pool_here", "_law_cell", "_law_given", "_law_k", "_law_one"]) (sc := defScope s_l_begin) (by decide +kernel)) (fun _ _ _ _ _ => (pg_name (i := 4) sc_l_begin.nd rfl (Or.inl rfl))) (fun _ _ _ _ _ => pts_nil) (fun _ _ _ _ _ => (pe_ix (ix_tupK (K := K) rfl) (pv 4) pe_int (fun _ _ => rfl)))) (by rfl))
              (pss_one
                (ps_expr (pe_bm PySem.F.plainAttrs_list PySem.F.slot_list_append PySem.F.type_list_append mt_append (pv 2) (pa_cons (pe_tup (pa_cons (pe_ix ix_list (pv 0) (pv 3) (fun _ _ => rfl)) (pa_cons (pe_callS (ok_l_text T) (hr.mono (j := 2) (by decide)) rfl T.g_l_text T.k_l_text T.b_l_text (fun σ => L2N.passAt tkd σ) (pa_cons (pe_op oIadd (pv 1) (pv 3)) (pa_cons (pv 3) pa_nil))) pa_nil))) pa_nil))))
              pss_nil)))
      (pss_one
        (ps_ret (pv 2))))), ?_⟩
    obtain ⟨pp, ts, c, rfl, hpp, k⟩ := h
    have R0 : Run [] H H := Run.start Live.nil
    repeat wtm_at "k"
    rename_i l H1 u1 u2 u3 r1 g1 s1
    refine l_rng1 (by omega) (l_rng (fun i σ' H' => ∃ x3 acc gs, σ' = [some (.ref pp), some (.int c), some (.ref l), x3, none] ∧ Run [] H H' ∧ H' l = some (.lst acc) ∧ Paired (IsS H') acc gs ∧ gs.length ≤ i ∧ ∀ p ∈ gs, p.k ∈ ts) ⟨_, _, _, rfl, r1, g1, .nil, Nat.le_refl _, fun _ z => by cases z⟩ (fun i σ' H2 hi q => ?_) fun σ' H2 q => ?_)
    · obtain ⟨x3, acc, gs, rfl, r2, g2, hp, hl, hk⟩ := q
      obtain ⟨c0, ek, mc⟩ := atI_mem (xs := ts.map V.str) (n := 0 + (i : Int)) (by omega) (by rw [List.length_map, hpp.len]; omega)
      obtain ⟨key, mk, rfl⟩ := List.mem_map.mp mc
      have hpp2 : H2 pp = some (.lst (ts.map V.str)) := r2.ext.keep _ _ hpp.at' (by simp)
      have la := Paired.length hp
      have nlp : pp ≠ l := ne_of_none hpp.at' u1
      repeat wtm_at "k"
      refine l_lcL (j := 4) (xs := acc) (SqL.of g2) (by wtm_at "sz") (fun i acc2 _ => acc2.all flatV = true) rfl (fun _ _ _ _ _ z => z) (fun i2 x acc2 H3 R R0' ex e3 hl2 hP q1 q0 => ?_) (fun D H3 acc2 nD e3 hD lD hP => ?_)
      · obtain ⟨p, ep, t, rfl, ht⟩ := getT hp ex
        have ht' : H3 t = some (.tup (fS p)) := e3.tups _ _ ht
        repeat wtm_at "k"
        refine q1 _ _ (Ext.refl _ _) ?_
        rw [List.all_append, hP]; rfl
      · have r3 : Run [] H H3 := r2.same e3
        have g3 : H3 l = some (.lst acc) := e3.keep _ _ g2 (by simp)
        refine l_in (SqL.of hD) rfl hP fun b => ?_
        refine k_bl (k_if (fun _ => ?_) fun _ => ?_)
        · repeat wtm_at "k"
          refine ⟨_, _, rfl, by omega, by omega, fun v H4 tv e4 => ?_⟩
          repeat wtm_at "k"
          rename_i t H5 w1 w2 w3 r5 g5 s5 H6 r6 g6 n6
          refine ⟨_, _, gs ++ [⟨key, v, (hpp.tx key mk).mono (by decide), tv.mono (by decide)⟩], rfl, r6, g6, snocT (keepT (fun a xs h => by wtm_at "hf") hp) ⟨t, rfl, by wtm_at "hf"⟩, by rw [List.length_append]; simp; omega, fun p hm => ?_⟩
          rcases List.mem_append.mp hm with hm | hm
          · exact hk p hm
          · rw [List.mem_singleton.mp hm]; exact mk
        · repeat wtm_at "k"
          exact ⟨_, _, _, rfl, r3, g3, keepT e3.tups hp, by omega, hk⟩
    · obtain ⟨x3, acc, gs, rfl, r2, g2, hp, hl, hk⟩ := q
      repeat wtm_at "k"
      exact k l H2 acc gs u1 r2.ext g2 hp (by omega) hk
def sp_l_made (K : PySem.W.Frag) : Sp := fun vs H Q _ => ∃ s a xs gs c, vs = [.int s, .ref a, .int c] ∧ H a = some (.lst xs) ∧ Paired (IsS H) xs gs ∧
  ∀ p H' F, EarAt K H' p F ⟨s - 1, gs, []⟩ → Grow H [] F → Ext [] H H' → Q (.ref p) H'
theorem sc_l_made : FnScope ["_law_begin_here", "_law_given", "_law_cell"] ["_law_begin_here", "_law_given", "_law_cell"] (defScope s_l_made) := ⟨rfl, rfl, rfl, by decide +kernel, rfl, by decide +kernel, by decide +kernel⟩
theorem ok_l_made (T : FX K mg) : FnOk P w K mg base (L2N.CX P w) 3 (He.ga K "_law_made") (fdAt K ("_law_made", none)) ["_law_begin_here", "_law_given", "_law_cell"] (sp_l_made K) := by
  refine FunD.ok T.F_l_made sc_l_made (fun vs H Q E h => ?_) (fun cdv A outer s H vs Q E hr h => ?_)
  · (repeat (obtain ⟨_, h⟩ := h)); subst_vars; rfl
  · have hu := hu_of hr
    have hu64 := hr.units
    obtain ⟨_, kb_Ear_init_0⟩ := kb_Ear_init_0X T
    obtain ⟨_, kb_Ear_init_0_pairs_start⟩ := kb_Ear_init_0_pairs_startX T
    obtain ⟨_, kb_Ear_init_1⟩ := kb_Ear_init_1X T
    obtain ⟨_, kb_Ear_init_2⟩ := kb_Ear_init_2X T
    refine ⟨_,
      (pss_cons
        (ps_if (PW.pt (pw_and (pt_cmpR oIeq (pv 0) pe_int (nomark _)) (pw_and (pt_cmpR (op_eqD hu64) (pv 1) (pe_lst pa_nil) (nomark _)) (pw_and1 (pt_cmpR oIeq (pe_op oImod (pv 2) pe_int) pe_int (nomark _))))))
          (pss_one
            (ps_ret (pe_makeG0 T.mk_Ear (ok_Ear_init T) (hr.mono (j := 2) (by decide)) rfl T.g_Ear kb_Ear_init_0 (fun σ => L2N.passAt tkd σ) pk_nil)))
          pss_nil)
      (pss_cons
        (ps_if (PW.pt (pw_and (pt_cmpR (op_eqD hu64) (pv 1) (pe_lst pa_nil) (nomark _)) (pw_and1 (pt_cmpR oIeq (pe_op oImod (pv 2) pe_int) pe_int (nomark _)))))
          (pss_one
            (ps_ret (pe_makeG T.mk_Ear (ok_Ear_init T) (hr.mono (j := 2) (by decide)) rfl T.g_Ear kb_Ear_init_1 (fun σ => L2N.passAt tkd σ) (pa_cons (pv 0) pa_nil) pk_nil)))
          pss_nil)
      (pss_cons
        (ps_if (PW.pt (pw_and (pt_cmpR (op_eqD hu64) (pv 1) (pe_lst pa_nil) (nomark _)) (pw_and1 (pt_cmpR oIeq (pe_op oImod (pv 2) pe_int) pe_int (nomark _)))))
          (pss_one
            (ps_ret (pe_makeG T.mk_Ear (ok_Ear_init T) (hr.mono (j := 2) (by decide)) rfl T.g_Ear kb_Ear_init_2 (fun σ => L2N.passAt tkd σ) (pa_cons (pv 0) (pa_cons pe_non pa_nil)) pk_nil)))
          pss_nil)
      (pss_cons
        (ps_if (pt_cmpR oIeq (pe_op oImod (pv 2) pe_int) pe_int (nomark _))
          (pss_one
            (ps_ret (pe_makeG0 T.mk_Ear (ok_Ear_init T) (hr.mono (j := 2) (by decide)) rfl T.g_Ear kb_Ear_init_0_pairs_start (fun σ => L2N.passAt tkd σ) (pk_cons (pv 1) (pk_cons (pv 0) pk_nil)))))
          pss_nil)
      (pss_cons
        (ps_if (pt_cmpR oIeq (pe_op oImod (pv 2) pe_int) pe_int (nomark _))
          (pss_one
            (ps_ret (pe_makeG T.mk_Ear (ok_Ear_init T) (hr.mono (j := 2) (by decide)) rfl T.g_Ear kb_Ear_init_2 (fun σ => L2N.passAt tkd σ) (pa_cons (pv 0) (pa_cons (pv 1) pa_nil)) pk_nil)))
          pss_nil)
      (pss_one
        (ps_ret (pe_makeG T.mk_Ear (ok_Ear_init T) (hr.mono (j := 2) (by decide)) rfl T.g_Ear kb_Ear_init_2 (fun σ => L2N.passAt tkd σ) (pa_cons (pv 0) (pa_cons (pe_callTy oTup (by rfl) T.f_tuple (by decide +kernel) (pa_cons (pv 1) pa_nil)) pa_nil)) pk_nil)))))))), ?_⟩
    obtain ⟨s0, a, xs, gs, c, rfl, ha, hx, k⟩ := h
    have R0 : Run [] H H := Run.start Live.nil
    have eqE : ∀ {p : Addr} {H1 : Hp} {Q1 : VK}, Run [] H H1 → H1 p = some (.lst []) → Q1 (.bl gs.isEmpty) H1 → rEqD K (.ref a) (.ref p) H1 Q1 := fun r h q =>
      l_eqT0 fS_plain (SqL.of (r.ext.keep _ _ ha (by simp))) (SqL.of h) (keepT r.ext.tups hx) q
    have fin : ∀ {p dx : Addr} {H1 : Hp} {v : V} {st : Int} {E1 : XK}, st = s0 → H p = none → Run [] H H1 → H1 p = some (.ins (He.ga K "Ear") dx []) → ((v = .non ∧ gs.isEmpty = true) ∨ v = .ref a ∨ ∃ t, v = .ref t ∧ H1 t = some (.tup xs)) →
        sp_Ear_init K [.ref p, .int st, v] H1 (fun v H2 => v = .non ∧ Q (.ref p) H2) E1 := by
      intro p dx H1 v st E1 es fp r hp hv
      subst es
      refine ⟨p, dx, st, v, gs, rfl, hp, ?_, fun H' F hE g e => ⟨rfl, k p H' F hE ?_ ?_⟩⟩
      · rcases hv with ⟨e1, e2⟩ | e1 | ⟨t, e1, ht⟩
        · exact .inl ⟨e1, List.isEmpty_iff.mp e2⟩
        · exact .inr ⟨a, xs, e1, .inl (SqL.of (r.ext.keep _ _ ha (by simp))), keepT r.ext.tups hx⟩
        · exact .inr ⟨t, xs, e1, .inr (SqT.of ht), keepT r.ext.tups hx⟩
      · exact fun c hc => .inr ((g c hc).elim (fun z => by rw [List.mem_singleton.mp z]; exact fp) fun z => r.ext.free z (by simp))
      · exact r.ext.then e fun c hc => .inr (by rw [List.mem_singleton.mp hc]; exact fp)
    cases hb : gs.isEmpty
    all_goals
      rw [hb] at eqE fin
      repeat' first
        | wtm_at "k"
        | refine k_ifd (fun _ => ?_) fun _ => ?_
        | refine eqE (by assumption) (by assumption) ?_
        | with_reducible refine k_lens rfl rfl ?_
        | fail
      all_goals first
        | exact fin (by first | rfl | omega) (by assumption) (by assumption) (by assumption) (.inl ⟨rfl, rfl⟩)
        | exact fin (by first | rfl | omega) (by assumption) (by assumption) (by assumption) (.inr (.inl rfl))
        | exact fin (by first | rfl | omega) (by assumption) (by assumption) (by assumption) (.inr (.inr ⟨_, rfl, by wtm_at "hf"⟩))
end
end LW

set_option maxHeartbeats 4000000
namespace LW
open PySem PySem.Spec PyProof.Rows L2
local macro_rules | `(tactic| wtm_at "vk") => `(tactic| first
  | assumption
  | with_reducible exact rv_kept_told
  | exact valV_sv (by assumption)
  | exact valV_iv (by assumption)
  | fail)
local macro_rules | `(tactic| wtm_at "pk") => `(tactic| first
  | with_reducible exact putK_iv
  | with_reducible exact dropK_ik
  | with_reducible exact dropK_sk
  | with_reducible exact rp_kept_told
  | exact putK_sv
  | assumption
  | fail)
local macro_rules | `(tactic| wtm_at "rm") => `(tactic| first
  | with_reducible exact rm_kept
  | exact rfl
  | fail)
local macro_rules | `(tactic| wtm_at "rl") => `(tactic| first
  | with_reducible exact rl_kept
  | with_reducible assumption
  | fail)
local macro_rules | `(tactic| wtm_at "lk") => `(tactic| with_reducible first
  | exact lk_Ear_behind
  | exact lk_Ear_begun
  | exact lk_Ear_rows
  | fail)
local macro_rules | `(tactic| wtm_at "lm") => `(tactic| with_reducible first
  | exact lm_Ear_hear
  | exact lm_Ear_heard
  | exact lm_Ear_state
  | fail)
local macro_rules | `(tactic| wtm_at "pt") => `(tactic| with_reducible first
  | exact pt_Ear_behind
  | exact pt_Ear_begun
  | exact pt_Ear_rows
  | exact pi_Ear_0
  | exact pi_Ear_1
  | exact pi_Ear_2
  | fail)
local macro_rules | `(tactic| wtm_at "lz") => `(tactic| with_reducible first
  | exact lz_Ear
  | (simp only [List.length_cons, List.length_nil]; decide)
  | exact (by decide)
  | fail)
local macro_rules | `(tactic| wtm_at "hf") => `(tactic| first
  | assumption
  | (refine' hf_s ?hs ?hx; (case hs => assumption); (case hx => wtm_at "hf"))
  | (refine' hf_n ?hs ?hx ?ne; (case hs => assumption); (case hx => wtm_at "hf"); (case ne => wtm_at "ne"))
  | (refine' hf_e ?hs ?hx ?hy; (case hs => assumption); (case hx => wtm_at "hf"); (case hy => wtm_at "nin"))
  | fail)
local macro_rules | `(tactic| wtm_at "ne") => `(tactic| first
  | assumption
  | (apply Ne.symm; assumption)
  | (refine' ne_of_none ?hx ?hy; (case hy => assumption); (case hx => wtm_at "hf"))
  | (refine' (ne_of_none ?hx ?hy).symm; (case hy => assumption); (case hx => wtm_at "hf"))
  | (refine' ne_of ?hx ?hy ?hz; (case hx => assumption); (case hy => assumption); (case hz => intro z; cases z))
  | fail)
local macro_rules | `(tactic| wtm_at "nin") => `(tactic| first
  | assumption
  | exact notin_nil
  | (refine' notin_cons ?hx ?hy; (case hx => wtm_at "ne"); (case hy => wtm_at "nin"))
  | fail)
local macro_rules | `(tactic| wtm_at "mem") => `(tactic| first
  | assumption
  | exact List.mem_cons_self
  | (refine' List.mem_cons_of_mem _ ?hx; (case hx => wtm_at "mem"))
  | fail)
local macro_rules | `(tactic| wtm_at "wr") => `(tactic| first
  | exact Or.inr (by assumption)
  | exact Or.inl (by wtm_at "mem")
  | fail)
local macro_rules | `(tactic| wtm_at "lv") => `(tactic| first
  | assumption
  | exact Live.nil
  | (refine' Live.cons ?hx ?hy; (case hx => wtm_at "hf"); (case hy => wtm_at "lv"))
  | fail)
local macro_rules | `(tactic| wtm_at "run") => `(tactic| first
  | assumption
  | (refine' Run.same ?hx ?hy; (case hy => assumption); (case hx => wtm_at "run"))
  | fail)
local macro_rules | `(tactic| wtm_at "sq") => `(tactic| first
  | assumption
  | (refine' Run.seq ?hx ?hy; (case hx => assumption); (case hy => assumption))
  | (refine' SqL.of ?hx; (case hx => wtm_at "hf"))
  | (refine' Same.seq ?hx ?hy; (case hx => assumption); (case hy => wtm_at "sq"))
  | (refine' Ext.seqL ?hx ?hz ?hy; (case hx => assumption); (case hy => wtm_at "sq"); (case hz => wtm_at "nin"))
  | fail)
local macro_rules | `(tactic| wtm_at "st") => `(tactic| first
  | assumption
  | (refine' SqT.of ?hx; (case hx => wtm_at "hf"))
  | fail)
local macro_rules | `(tactic| wtm_at "ix") => `(tactic| first
  | assumption
  | exact rfl
  | fail)
local macro_rules | `(tactic| wtm_at "sz") => `(tactic| first
  | wtm_at "rl"
  | with_reducible assumption
  | (rw [ik_len]; wtm_at "sz")
  | (rw [sk_len]; wtm_at "sz")
  | exact smallM (by assumption)
  | exact smallM (by omega)
  | exact smallM (by simp only [List.length_cons, List.length_nil, List.length_append, List.length_map]; omega)
  | fail)
local macro_rules | `(tactic| wtm_at "tx") => `(tactic| first
  | assumption
  | ((with_reducible refine' Tx.app ?hx ?hy); (case hx => wtm_at "tx"); (case hy => wtm_at "tx"))
  | ((with_reducible refine' Tx.cut ?hx); (case hx => wtm_at "tx"))
  | with_reducible exact Tx.nil
  | fail)
local macro_rules | `(tactic| wtm_at "k") => `(tactic| first
  | with_reducible refine k_seq ?_
  | with_reducible refine k_next ?_
  | with_reducible refine k_asg ?_
  | with_reducible refine k_ret ?_
  | with_reducible refine k_retN ?_
  | with_reducible refine k_drop ?_
  | with_reducible refine k_ifS ?_
  | ((with_reducible refine' k_var ?hx ?_); (case hx => exact rfl))
  | with_reducible refine k_c ?_
  | with_reducible refine k_negc ?_
  | with_reducible refine k_neg ?_
  | with_reducible refine l_neg ?_
  | with_reducible refine k_op ?_
  | with_reducible refine k_cb ?_
  | with_reducible refine k_nil ?_
  | with_reducible refine k_cons ?_
  | with_reducible refine k_test ?_
  | with_reducible refine k_B ?_
  | with_reducible refine k_not ?_
  | with_reducible refine k_and ?_
  | with_reducible refine k_or ?_
  | with_reducible refine k_notV ?_
  | with_reducible refine k_andV ?_
  | with_reducible refine k_orV ?_
  | with_reducible refine k_bl ?_
  | with_reducible refine k_add ?_
  | with_reducible refine k_sub ?_
  | ((with_reducible refine' k_mod ?hx ?_); (case hx => first | decide | omega))
  | ((with_reducible refine' k_div ?hx ?_); (case hx => first | exact ⟨by decide, by decide⟩ | exact ⟨by omega, by omega⟩))
  | ((with_reducible refine' k_mul ?hx ?_); (case hx => first | exact Or.inl ⟨by decide, by decide⟩ | exact Or.inr ⟨by decide, by decide⟩ | exact Or.inl ⟨by omega, by omega⟩))
  | with_reducible refine k_p6 ?_
  | with_reducible refine k_p9 ?_
  | with_reducible refine k_p12 ?_
  | with_reducible refine k_p13 ?_
  | with_reducible refine k_p18 ?_
  | with_reducible refine k_p30 ?_
  | with_reducible refine k_lt ?_
  | with_reducible refine k_le ?_
  | with_reducible refine k_gt ?_
  | with_reducible refine k_ge ?_
  | with_reducible refine k_eq ?_
  | with_reducible refine k_ne ?_
  | with_reducible refine k_seqS ?_
  | with_reducible refine k_neS ?_
  | with_reducible refine k_neB ?_
  | with_reducible refine k_isN ?_
  | with_reducible refine k_noN ?_
  | with_reducible refine k_fld ?_
  | ((with_reducible refine' l_fld ?hx ?hy ?_); (case hx => wtm_at "hf"); (case hy => wtm_at "lk"))
  | with_reducible refine k_fldS ?_
  | ((with_reducible refine' l_fldS ?hr ?hx ?hz ?hy ?hw ?_); (case hr => wtm_at "run"); (case hx => wtm_at "hf"); (case hy => wtm_at "pt"); (case hz => wtm_at "lz"); (case hw => wtm_at "wr"); intro _ _ _ _)
  | ((with_reducible refine' l_new ?hr ?_); (case hr => wtm_at "run"); intro _ _ _ _ _ _ _ _)
  | with_reducible refine k_append ?_
  | ((with_reducible refine' l_tyL ?hx ?_); (case hx => wtm_at "hf"))
  | ((with_reducible refine' l_ins ?hx ?hy ?_); (case hx => wtm_at "hf"); (case hy => wtm_at "lm"))
  | with_reducible refine k_methS ?_
  | with_reducible refine k_methG ?_
  | with_reducible refine k_makeG ?_
  | with_reducible refine k_meth0 ?_
  | with_reducible refine k_callS ?_
  | with_reducible refine k_callE ?_
  | with_reducible refine k_dget ?_
  | with_reducible refine k_din ?_
  | with_reducible refine k_dnotin ?_
  | with_reducible refine k_dput ?_
  | with_reducible refine k_dpop ?_
  | with_reducible refine k_dget2 ?_
  | with_reducible refine k_tup ?_
  | with_reducible refine k_lst ?_
  | with_reducible refine k_dnew ?_
  | ((with_reducible refine' l_tup ?hx ?_); (case hx => simp only [List.length_cons, List.length_nil]; decide))
  | ((with_reducible refine' l_lst ?hx ?_); (case hx => simp only [List.length_cons, List.length_nil]; decide))
  | ((with_reducible refine' l_isD ?hx ?_); (case hx => wtm_at "hf"))
  | ((with_reducible refine' l_dinI ?hx ?_); (case hx => wtm_at "hf"))
  | ((with_reducible refine' l_dinS ?hx ?_); (case hx => wtm_at "hf"))
  | ((with_reducible refine' l_dnotinI ?hx ?_); (case hx => wtm_at "hf"))
  | ((with_reducible refine' l_dnotinS ?hx ?_); (case hx => wtm_at "hf"))
  | ((with_reducible refine' l_dputI ?hr ?hx ?hz ?hy ?hw ?_); (case hr => wtm_at "run"); (case hx => wtm_at "hf"); (case hy => wtm_at "pk"); (case hz => wtm_at "sz"); (case hw => wtm_at "wr"); intro _ _ _ _)
  | ((with_reducible refine' l_dputS ?hr ?hx ?hz ?hy ?hw ?_); (case hr => wtm_at "run"); (case hx => wtm_at "hf"); (case hy => wtm_at "pk"); (case hz => wtm_at "sz"); (case hw => wtm_at "wr"); intro _ _ _ _)
  | ((with_reducible refine' l_dpopI ?hr ?hx ?hz ?hy ?hw ?_); (case hr => wtm_at "run"); (case hx => wtm_at "hf"); (case hy => wtm_at "pk"); (case hz => wtm_at "vk"); (case hw => wtm_at "wr"); intro _ _ _ _)
  | ((with_reducible refine' l_dpopS ?hr ?hx ?hz ?hy ?hw ?_); (case hr => wtm_at "run"); (case hx => wtm_at "hf"); (case hy => wtm_at "pk"); (case hz => wtm_at "vk"); (case hw => wtm_at "wr"); intro _ _ _ _)
  | ((with_reducible refine' l_dgetI ?hx ?hz ?_); (case hx => wtm_at "hf"); (case hz => wtm_at "vk"))
  | ((with_reducible refine' l_dgetS ?hx ?hz ?_); (case hx => wtm_at "hf"); (case hz => wtm_at "vk"))
  | ((with_reducible refine' l_dgetIF ?hx ?hz ?_); (case hx => wtm_at "hf"); (case hz => wtm_at "vk"))
  | ((with_reducible refine' l_dgetSF ?hx ?hz ?_); (case hx => wtm_at "hf"); (case hz => wtm_at "vk"))
  | ((with_reducible refine' k_disp ?hr ?_); (case hr => wtm_at "run"); intro _ _ _ _ _ _ _ _)
  | with_reducible refine k_pcons ?_
  | with_reducible refine k_pnil ?_
  | ((with_reducible refine' l_disp ?hr ?hx ?hu ?hv ?hy ?hw ?_); (case hr => wtm_at "run"); (case hx => wtm_at "hf"); (case hu => exact rfl); (case hv => simp only [List.length_map, List.length_cons, List.length_nil]; decide); (case hy => wtm_at "rm"); (case hw => wtm_at "wr"); intro _ _ _ _)
  | ((with_reducible refine' l_append ?hr ?hx ?hz ?hw ?_); (case hr => wtm_at "run"); (case hx => wtm_at "hf"); (case hz => wtm_at "sz"); (case hw => wtm_at "wr"); intro _ _ _ _)
  | ((with_reducible refine' l_isEt ?hx ?_); (case hx => first | exact isD (ExcK.kit (by assumption) _ (by wtm_at "mem") _ (by wtm_at "mem")) | exact isC (ExcK.kit (by assumption) _ (by wtm_at "mem") _ (by wtm_at "mem")) (by decide)))
  | ((with_reducible refine' l_isEV ?hx ?_); (case hx => exact ExcK.kitV (by assumption) _ (by wtm_at "mem")))
  | ((with_reducible refine' l_isiI ?hx ?_); (case hx => first | rfl | assumption))
  | ((with_reducible refine' l_isiB ?hx ?_); (case hx => first | rfl | assumption))
  | with_reducible refine l_isiSS ?_
  | ((with_reducible refine' l_isiS ?hx ?_); (case hx => first | rfl | assumption))
  | ((with_reducible refine' l_isiL ?hx ?_); (case hx => wtm_at "hf"))
  | ((with_reducible refine' l_isiT ?hx ?_); (case hx => wtm_at "hf"))
  | ((with_reducible refine' l_lenL ?hx ?_); (case hx => wtm_at "sq"))
  | ((with_reducible refine' l_lenT ?hx ?_); (case hx => wtm_at "st"))
  | ((with_reducible refine' l_ixL ?hx ?hy ?_); (case hx => wtm_at "sq"); (case hy => wtm_at "ix"))
  | ((with_reducible refine' l_ixT ?hx ?hy ?_); (case hx => wtm_at "st"); (case hy => wtm_at "ix"))
  | with_reducible refine k_m1 ?_
  | with_reducible refine l_strX ?_
  | with_reducible refine l_sw ?_
  | ((with_reducible refine' x_addS ?hx ?hy ?hz ?_); (case hx => wtm_at "tx"); (case hy => wtm_at "tx"); (case hz => decide))
  | ((with_reducible refine' x_slS ?hx ?hz ?_); (case hx => wtm_at "tx"); (case hz => decide))
  | ((with_reducible refine' x_lenX ?hx ?hz ?_); (case hx => wtm_at "tx"); (case hz => decide))
  | with_reducible refine l_max ?_
  | with_reducible refine l_min ?_
  | with_reducible refine l_abs ?_
  | with_reducible refine k_sl ?_
  | with_reducible refine k_part ?_
  | with_reducible refine l_part ?_
  | with_reducible refine k_nopart ?_
  | with_reducible refine k_yes ?_
  | ((with_reducible refine' l_slL ?hr ?hx ?_); (case hr => wtm_at "run"); (case hx => wtm_at "sq"); intro _ _ _ _ _ _ _ _)
  | with_reducible refine k_lcL ?_
  | with_reducible refine k_lcR ?_
  | with_reducible refine k_for ?_
  | with_reducible refine k_rng1 ?_
  | with_reducible refine k_rng2 ?_
  | with_reducible refine k_rng3 ?_
  | with_reducible refine k_makeS ?_
  | ((with_reducible refine' l_make ?hr ?_); (case hr => wtm_at "run"); intro _ _ _ _ _ _ _ _ _)
  | with_reducible refine k_ntt ?_
  | with_reducible refine k_ntf ?_
  | with_reducible refine k_clear ?_
  | ((with_reducible refine' l_clear ?hr ?hx ?hw ?_); (case hr => wtm_at "run"); (case hx => wtm_at "hf"); (case hw => wtm_at "wr"); intro _ _ _ _)
  | with_reducible refine k_ift ?_
  | with_reducible refine k_iff ?_
  | with_reducible refine g_name ?_
  | with_reducible refine k_revL ?_
  | ((with_reducible refine' l_tupL ?hx ?_); (case hx => wtm_at "sq"))
  | with_reducible refine l_intB ?_
  | ((with_reducible refine' l_rev ?hx ?_); (case hx => wtm_at "sq"))
  | ((with_reducible refine' l_gT2 ?hn ?hx ?_); (case hn => exact rfl); (case hx => wtm_at "st"))
  | ((with_reducible refine' l_listL ?hx ?_); (case hx => wtm_at "sq"))
  | ((with_reducible refine' l_listT ?hx ?_); (case hx => wtm_at "st"))
  | fail)
local macro_rules | `(tactic| wtm_at "k") => `(tactic| first
  | with_reducible refine k_wholeI ?_
  | ((with_reducible refine' k_whole ?hx ?_); (case hx => first | rfl | assumption))
  | ((with_reducible refine' k_cell ?hx ?hy ?_); (case hx => first | decide | omega | assumption); (case hy => wtm_at "sq"))
  | fail)
/-! ### an ear and its mirror -/
def behindOf (b : Int) (rows : List Row) : Int := match rows.getLast? with
  | none => b - 1
  | some r => r.n
theorem hear_behind {bg : Int} : ∀ {rs : List Row} {E : EarS}, E.behind = behindOf bg E.rows → (E.hear rs).behind = behindOf bg (E.hear rs).rows
  | [], E, h => h
  | r :: rs, E, h => by
    refine hear_behind (rs := rs) (E := E.step r) ?_
    unfold EarS.step
    split
    · show r.n = behindOf bg (E.rows ++ [r])
      unfold behindOf
      rw [List.getLast?_concat]
    · exact h
theorem hear_begun : ∀ {rs : List Row} {E : EarS}, (E.hear rs).begun = E.begun
  | [], E => rfl
  | r :: rs, E => by
    refine (hear_begun (rs := rs) (E := E.step r)).trans ?_
    unfold EarS.step
    split <;> rfl
theorem hear_len : ∀ {rs : List Row} {E : EarS}, (E.hear rs).rows.length ≤ E.rows.length + rs.length
  | [], E => Nat.le_refl _
  | r :: rs, E => by
    refine Nat.le_trans (hear_len (rs := rs) (E := E.step r)) ?_
    unfold EarS.step
    split
    · show (E.rows ++ [r]).length + rs.length ≤ E.rows.length + (rs.length + 1); rw [List.length_append]; simp; omega
    · show E.rows.length + rs.length ≤ E.rows.length + (rs.length + 1); omega
theorem hear_keys {ts : List Str} : ∀ {rs : List Row} {E : EarS}, (∀ r ∈ rs, r.k ∈ ts) → (∀ r ∈ E.rows, r.k ∈ ts) → ∀ r ∈ (E.hear rs).rows, r.k ∈ ts
  | [], E, _, h => h
  | r :: rs, E, h1, h => by
    refine hear_keys (rs := rs) (E := E.step r) (fun q m => h1 q (List.mem_cons_of_mem _ m)) ?_
    unfold EarS.step
    split
    · intro q m
      rcases List.mem_append.mp m with m | m
      · exact h q m
      · rw [List.mem_singleton.mp m]; exact h1 r List.mem_cons_self
    · exact h
/-- an ear, the list of what it took in, the record of what was told -/
def EarP (K : PySem.W.Frag) (p ta kd : Addr) (bg : Int) (gs : List SS) (ts : List Str) (N : Nat) (H : Hp) (G : List Addr) : Prop :=
  ∃ F E c xs, G = F ++ [ta, kd, c] ∧ EarAt K H p F E ∧ Apart F [ta, kd, c] ∧ H ta = some (.lst xs) ∧ Paired (IsR H) xs E.rows ∧ H kd = some (.dK (rc_kept (.ref c))) ∧ H c = some (.lst []) ∧ ta ≠ c ∧
    E.begun = gs ∧ E.behind = behindOf bg E.rows ∧ E.rows.length ≤ N ∧ ∀ r ∈ E.rows, r.k ∈ ts
theorem Apart.app {F1 F2 G : List Addr} (h : Apart (F1 ++ F2) G) : Apart F1 G ∧ Apart F2 G := ⟨fun c m => h c (List.mem_append.mpr (.inl m)), fun c m => h c (List.mem_append.mpr (.inr m))⟩
theorem Live.app {H : Hp} {F1 F2 : List Addr} (h1 : Live H F1) (h2 : Live H F2) : Live H (F1 ++ F2) := fun c m => (List.mem_append.mp m).elim (h1 c) (h2 c)
def earTh (K : PySem.W.Frag) (p ta kd : Addr) (bg : Int) (gs : List SS) (ts : List Str) (N : Nat) : Thing where
  At := EarP K p ta kd bg gs ts N
  ext := fun ⟨F, E, c, xs, e1, hE, ap, h1, h2, h3, h4, r⟩ e h => by
    subst e1
    exact ⟨F, E, c, xs, rfl, hE.ext e h.app.1, ap, e.keep _ _ h1 (h _ (by simp)), keepT e.tups h2, e.keep _ _ h3 (h _ (by simp)), e.keep _ _ h4 (h _ (by simp)), r⟩
  live := fun ⟨F, E, c, xs, e1, hE, ap, h1, h2, h3, h4, r⟩ => by
    subst e1
    exact hE.live.app (Live.cons h1 (Live.cons h3 (Live.cons h4 Live.nil)))
section
variable {P : Program} {w : World} {K : PySem.W.Frag} {mg : Str → Option Value} {base : Heap}
def sp_l_heard (K : PySem.W.Frag) : Sp := fun vs H Q _ => ∃ p ta bg b kd G gs ts N ys rs, vs = [.ref p, .ref ta, .int bg, .ref b, .ref kd] ∧ EarP K p ta kd bg gs ts N H G ∧ H b = some (.lst ys) ∧ Paired (IsR H) ys rs ∧ rs.length ≤ 1000 ∧ (∀ r ∈ rs, r.k ∈ ts) ∧ b ∉ G ∧ N ≤ 900000 ∧
  ∀ H' G', EarP K p ta kd bg gs ts (N + rs.length) H' G' → Grow H G G' → Ext G H H' → Q (.bl true) H'
theorem sc_l_heard : FnScope ["_law_ear", "_law_taken", "_law_begin_here", "_law_batch", "_law_kept", "_law_handed", "_law_behind", "_law_row", "_law_found", "_law_stayed", "_law_told"] ["_law_ear", "_law_taken", "_law_begin_here", "_law_batch", "_law_kept"] (defScope s_l_heard) := ⟨rfl, rfl, rfl, by decide +kernel, rfl, by decide +kernel, by decide +kernel⟩
theorem ok_l_heard (T : FX K mg) : FnOk P w K mg base (L2N.CX P w) 4 (He.ga K "_law_heard") (fdAt K ("_law_heard", none)) ["_law_ear", "_law_taken", "_law_begin_here", "_law_batch", "_law_kept"] (sp_l_heard K) := by
  refine FunD.ok T.F_l_heard sc_l_heard (fun vs H Q E h => ?_) (fun cdv A outer s H vs Q E hr h => ?_)
  · (repeat (obtain ⟨_, h⟩ := h)); subst_vars; rfl
  · have hu := hu_of hr
    have hu64 := hr.units
    refine ⟨_,
      (pss_cons
        (ps_set (i := 5) sc_l_heard.nd rfl (Or.inl rfl) (pe_callTy oList (by rfl) T.f_list boot_list (pa_cons (pv 3) pa_nil)))
      (pss_cons
        (ps_set (i := 6) sc_l_heard.nd rfl (Or.inl rfl) (pe_op oIsub (pv 2) pe_int))
      (pss_cons
        (ps_if (pt_cmpR (op_neD hu64) (pv 1) (pe_lst pa_nil) (nomark _))
          (pss_one
            (ps_set (i := 6) sc_l_heard.nd rfl (Or.inl rfl) (pe_ix ix_tup (pe_ix ix_list (pv 1) (pe_un un_neg pe_int) (fun _ _ => rfl)) pe_int (fun _ _ => rfl))))
          pss_nil)
      (pss_cons
        (ps_for pod rfl (pi_list (pv 3)) (pg_name (i := 7) sc_l_heard.nd rfl (Or.inl rfl))
          (pss_one
            (ps_if (pt_cmpR oIgt (pe_ix ix_tup (pv 7) pe_int (fun _ _ => rfl)) (pv 6) (nomark _))
              (pss_cons
                (ps_expr (pe_bm PySem.F.plainAttrs_list PySem.F.slot_list_append PySem.F.type_list_append mt_append (pv 1) (pa_cons (pv 7) pa_nil)))
              (pss_one
                (ps_set (i := 6) sc_l_heard.nd rfl (Or.inl rfl) (pe_ix ix_tup (pv 7) pe_int (fun _ _ => rfl)))))
              pss_nil)))
      (pss_cons
        (ps_set (i := 8) sc_l_heard.nd rfl (Or.inl rfl) (pe_methS (pv 0) T.cl_Ear T.me_Ear_hear (ok_Ear_hear T) (hr.mono (j := 1) (by decide)) T.b_Ear_hear (fun σ => L2N.passAt tkd σ) (pa_cons (pv 5) pa_nil)))
      (pss_cons
        (ps_set (i := 9) sc_l_heard.nd rfl (Or.inl rfl) (pe_cmpR (op_eqD hu64) (pv 5) (pv 3) (nomark _)))
      (pss_cons
        (ps_expr (pe_bm0 PySem.F.plainAttrs_list PySem.F.slot_list_clear PySem.F.type_list_clear mt_clear (pv 5)))
      (pss_cons
        (ps_set (i := 10) sc_l_heard.nd rfl (Or.inl rfl) (pe_meth0S (pv 0) T.cl_Ear T.me_Ear_heard (ok_Ear_heard T) (hr.mono (j := 1) (by decide)) T.b_Ear_heard (fun σ => L2N.passAt tkd σ)))
      (pss_cons
        (ps_if (PW.pt (pw_or (pt_cmpR (op_neD hu64) (pe_dget hu (pv 4) pe_str (fun _ _ => rfl)) (pe_lst pa_nil) (nomark _)) (pw_or1 (pt_not (pt_val (pe_callS (ok_l_changes T) (hr.mono (j := 3) (by decide)) rfl T.g_l_changes T.k_l_changes T.b_l_changes (fun σ => L2N.passAt tkd σ) (pa_cons (pv 10) (pa_cons (pv 1) pa_nil))))))))
          (pss_one
            (ps_ret pe_bl))
          pss_nil)
      (pss_cons
        (ps_dput hu (pv 4) pe_str (pv 10) rfl)
      (pss_one
        (ps_ret (pe_and (pe_callS (ok_l_whole T) (hr.mono (j := 1) (by decide)) rfl T.g_l_whole T.k_l_whole T.b_l_whole (fun σ => L2N.passAt tkd σ) (pa_cons (pv 8) pa_nil)) (pe_and (pe_cmpR oIeq (pv 8) (pv 6) (nomark _)) (pe_one (pv 9)))))))))))))))), ?_⟩
    obtain ⟨p, ta, bg, b, kd, G, gs, ts, N, ys, rs, rfl, hEP, hb, hr, zr, kr, bG, zN, k⟩ := h
    obtain ⟨F, E0, c, xs, rfl, hE, ap, h1, h2, h3, h4, tac, eg, eb, zE, kE⟩ := id hEP
    have bF : b ∉ F := fun z => bG (List.mem_append.mpr (.inl z))
    have nb : b ≠ ta := fun z => bG (by rw [z]; simp)
    have taF : ta ∉ F := fun z => ap _ z (by simp)
    have kdF : kd ∉ F := fun z => ap _ z (by simp)
    have cF : c ∉ F := fun z => ap _ z (by simp)
    have ntk : ta ≠ kd := by wtm_at "ne"
    have lx := Paired.length h2
    have ly := Paired.length hr
    have R0 : Run [ta] H H := Run.start (by wtm_at "lv")
    repeat wtm_at "k"
    rename_i hd H1 u1 u2 u3 r1 g1 s1 q0 H2 v1 v2 v3 r2 g2 s2
    have nhd : hd ≠ ta := by wtm_at "ne"
    have nhk : hd ≠ kd := by wtm_at "ne"
    have nhc : hd ≠ c := by wtm_at "ne"
    have hdF : hd ∉ F := fun z => hE.live _ z u1
    refine l_neT0 fR_plain (ds := E0.rows) (by wtm_at "sq") (by wtm_at "sq") (keepT (fun a xs h => by wtm_at "hf") h2) ?_
    refine k_bl ?_
    refine k_fork (fun σ' H' => σ' = [some (.ref p), some (.ref ta), some (.int bg), some (.ref b), some (.ref kd), some (.ref hd), some (.int E0.behind), none, none, none, none] ∧ H2 = H') (fun nx' ky => ?_) ?_
    · refine k_if (fun c1 => ?_) fun c1 => ?_
      · have ne : xs.length - 1 < xs.length := by
          have : E0.rows.length ≠ 0 := fun z => by rw [List.length_eq_zero_iff] at z; rw [z] at c1; cases c1
          omega
        obtain ⟨r, er, q, eq, hq⟩ := getT h2 (List.getElem?_eq_getElem ne)
        have el : atI xs (-1) = some (.ref q) := by rw [← eq]; exact atI_last (List.getElem?_eq_getElem ne)
        have ebr : E0.behind = r.n := by
          rw [eb]
          unfold behindOf
          rw [List.getLast?_eq_getElem?, ← lx, er]
        rw [ebr] at ky
        repeat wtm_at "k"
        exact ky _ _ ⟨rfl, rfl⟩
      · have e0 : E0.rows = [] := by
          cases e : E0.rows with
          | nil => rfl
          | cons x y => rw [e] at c1; cases c1
        have ebr : E0.behind = bg - 1 := by rw [eb, e0]; rfl
        rw [ebr] at ky
        repeat wtm_at "k"
        exact ky _ _ ⟨rfl, rfl⟩
    · rintro _ _ ⟨rfl, rfl⟩
      have b2 : H2 b = some (.lst ys) := by wtm_at "hf"
      have hd2 : H2 hd = some (.lst ys) := by wtm_at "hf"
      clear g1
      repeat wtm_at "k"
      refine l_for (xs := ys) (SqL.of b2) (fun i σ' H' => ∃ x7 zs, σ' = [some (.ref p), some (.ref ta), some (.int bg), some (.ref b), some (.ref kd), some (.ref hd), some (.int (E0.hear (rs.take i)).behind), x7, none, none, none] ∧ Run [ta] H H' ∧ H' ta = some (.lst zs) ∧ Paired (IsR H') zs (E0.hear (rs.take i)).rows ∧ H' hd = some (.lst ys)) ?h0 ?hl ?hs ?hd
      case h0 => exact ⟨_, xs, rfl, r2, by wtm_at "hf", keepT (fun a xs h => by wtm_at "hf") h2, hd2⟩
      case hl => exact fun i σ' H' _ ⟨_, _, _, r, _⟩ => SqL.of (r.ext.keep _ _ hb (by simpa using nb))
      case hs =>
        intro i x σ' H3 ex ⟨x7, zs, es, r3, g3, hp, hd3⟩
        subst es
        obtain ⟨r, er, t, rfl, ht⟩ := getT hr ex
        have ht' : H3 t = some (.tup (fR r)) := r3.ext.tups _ _ ht
        have zl := hear_len (rs := rs.take i) (E := E0)
        have z2 := List.length_take_le' i rs
        have lz := Paired.length hp
        have es : E0.hear (rs.take (i + 1)) = (E0.hear (rs.take i)).step r := foldl_snoc er
        rw [es]
        generalize E0.hear (rs.take i) = G at *
        unfold EarS.step
        repeat wtm_at "k"
        refine k_ifd (fun cc => ?_) fun cc => ?_
        · rw [if_pos cc]
          repeat wtm_at "k"
          rename_i H4 r4 g4 n4
          exact ⟨_, _, rfl, r4, g4, snocT (keepT (fun a xs h => by wtm_at "hf") hp) ⟨t, rfl, by wtm_at "hf"⟩, by wtm_at "hf"⟩
        · rw [if_neg cc]
          repeat wtm_at "k"
          exact ⟨_, _, rfl, r3, g3, hp, hd3⟩
      case hd =>
        rintro σ' H3 ⟨x7, zs, rfl, r3, g3, hp, hd3⟩
        have e : rs.take ys.length = rs := by rw [ly, List.take_length]
        rw [e] at hp ⊢
        have hE3 := hE.ext r3.ext (fun c hc hd => taF (by rw [← List.mem_singleton.mp hd]; exact hc))
        obtain ⟨pb, pr, dx, bs, yl, eF, e1, e2, e3, e4, e5, en⟩ := id hE3
        repeat wtm_at "k"
        refine ⟨p, F, E0, hd, ys, rs, rfl, hE3, SqL.of hd3, hdF, keepT r3.ext.tups hr, by omega, fun H4 hE4 x4 => ?_⟩
        have b4 : H4 b = some (.lst ys) := x4.keep _ _ (r3.ext.keep _ _ hb (by simpa using nb)) bF
        have hd4 : H4 hd = some (.lst ys) := x4.keep _ _ hd3 hdF
        have ta4 : H4 ta = some (.lst zs) := x4.keep _ _ g3 taF
        have kd4 : H4 kd = some (.dK (rc_kept (.ref c))) := x4.keep _ _ (r3.ext.keep _ _ h3 (by simpa using ntk.symm)) kdF
        have c4 : H4 c = some (.lst []) := x4.keep _ _ (r3.ext.keep _ _ h4 (by simpa using tac.symm)) cF
        have hr4 := keepT (r3.ext.tups) hr
        have hr4 := keepT (x4.tups) hr4
        have hp4 := keepT x4.tups hp
        have hlv := hE4.live
        have nph : p ≠ hd := fun z => hdF (by rw [← z, eF]; simp)
        have npk : p ≠ kd := fun z => kdF (by rw [← z, eF]; simp)
        have apk : Apart F [kd, hd] := by
          intro x hx hy
          simp only [List.mem_cons, List.not_mem_nil, or_false] at hy
          rcases hy with rfl | rfl
          · exact kdF hx
          · exact hdF hx
        have xHA : Ext [ta] H H3 := r3.ext
        have nbk : b ≠ kd := fun z => bG (by rw [z]; simp)
        clear r3 r2 r1 R0 g3 hd3 e1 b2 hd2
        obtain ⟨pb', pr', dx', bs', yl', eF', e1', e2', e3', e4', e5', en'⟩ := id hE4
        have R4 : Run [kd, hd] H4 H4 := Run.start (by wtm_at "lv")
        repeat wtm_at "k"
        refine l_eqT fR_plain (by wtm_at "sq") (by wtm_at "sq") hr4 hr4 ?_
        repeat wtm_at "k"
        rename_i H5 r5 g5 n5
        refine ⟨p, F, _, rfl, hE4.ext r5.ext apk, fun l H6 zs2 nl x6 g6 p6 => ?_⟩
        have nl4 : H4 l = none := by
          cases z : H4 l with
          | none => rfl
          | some o =>
            by_cases q : l = hd
            · rw [q, g5] at nl; cases nl
            · rw [n5 _ q, z] at nl; cases nl
        have nkl : kd ≠ l := ne_of_none kd4 nl4
        have nhl : hd ≠ l := ne_of_none hd4 nl4
        have ntl : ta ≠ l := ne_of_none ta4 nl4
        repeat wtm_at "k"
        refine l_neN (by wtm_at "sq") (by wtm_at "sq") ?_
        repeat wtm_at "k"
        rename_i q7 H7 w1 w2 w3 r7 g7 s7
        refine ⟨l, ta, zs2, zs, _, rfl, by wtm_at "hf", SqL.of (by wtm_at "hf"), keepT (fun a xs h => by wtm_at "hf") p6, keepT (fun a xs h => by wtm_at "hf") hp4, fun H8 x8 g8 => ?_⟩
        have r8 : Run [kd, hd] H4 H8 := r7.call x8 (fun y hy => .inr (by rw [List.mem_singleton.mp hy]; exact nl4)) fun y hy hz => by
          rw [List.mem_singleton.mp hz] at hy
          simp only [List.mem_cons, List.not_mem_nil, or_false] at hy
          rcases hy with z | z
          · exact absurd z.symm nkl
          · exact absurd z.symm nhl
        repeat wtm_at "k"
        rw [decide_eq_true rfl]
        repeat wtm_at "k"
        rename_i H9 r9 g9 n9
        have x49 : Ext [kd, hd] H4 H9 := r9.ext
        have lF : l ∉ F := fun z => hlv _ z nl4
        refine k H9 (F ++ [ta, kd, l]) ⟨F, _, l, zs, rfl, hE4.ext x49 apk, ?_, x49.keep _ _ ta4 (by simp [ntk, nhd.symm]), keepT x49.tups hp4, g9, by wtm_at "hf", ntl, ?_, ?_, ?_, ?_⟩ ?_ ?_
        · intro y hy hz
          simp only [List.mem_cons, List.not_mem_nil, or_false] at hz
          rcases hz with rfl | rfl | rfl
          · exact taF hy
          · exact kdF hy
          · exact lF hy
        · rw [hear_begun]; exact eg
        · exact hear_behind eb
        · have := hear_len (rs := rs) (E := E0); omega
        · exact hear_keys kr kE
        · intro y hy
          rcases List.mem_append.mp hy with z | z
          · exact .inl (List.mem_append.mpr (.inl z))
          · simp only [List.mem_cons, List.not_mem_nil, or_false] at z
            rcases z with rfl | rfl | rfl
            · exact .inl (by simp)
            · exact .inl (by simp)
            · refine .inr (xHA.free (x4.free nl4 lF) ?_)
              simpa using ntl.symm
        · refine ((xHA.sub ?_).trans (x4.sub ?_)).then x49 ?_
          · intro y hy; rw [List.mem_singleton.mp hy]; simp
          · intro y hy; exact List.mem_append.mpr (.inl hy)
          · intro y hy
            simp only [List.mem_cons, List.not_mem_nil, or_false] at hy
            rcases hy with rfl | rfl
            · exact .inl (by simp)
            · exact .inr u1
end
end LW

set_option maxHeartbeats 4000000
namespace LW
open PySem PySem.Spec PyProof.Rows L2
local macro_rules | `(tactic| wtm_at "vk") => `(tactic| first
  | assumption
  | with_reducible exact rv_kept_told
  | exact valV_sv (by assumption)
  | exact valV_iv (by assumption)
  | fail)
local macro_rules | `(tactic| wtm_at "pk") => `(tactic| first
  | with_reducible exact putK_iv
  | with_reducible exact dropK_ik
  | with_reducible exact dropK_sk
  | with_reducible exact rp_kept_told
  | exact putK_sv
  | assumption
  | fail)
local macro_rules | `(tactic| wtm_at "rm") => `(tactic| first
  | with_reducible exact rm_kept
  | exact rfl
  | fail)
local macro_rules | `(tactic| wtm_at "rl") => `(tactic| first
  | with_reducible exact rl_kept
  | with_reducible assumption
  | fail)
local macro_rules | `(tactic| wtm_at "lk") => `(tactic| with_reducible first
  | exact lk_Ear_behind
  | exact lk_Ear_begun
  | exact lk_Ear_rows
  | fail)
local macro_rules | `(tactic| wtm_at "lm") => `(tactic| with_reducible first
  | exact lm_Ear_hear
  | exact lm_Ear_heard
  | exact lm_Ear_state
  | fail)
local macro_rules | `(tactic| wtm_at "pt") => `(tactic| with_reducible first
  | exact pt_Ear_behind
  | exact pt_Ear_begun
  | exact pt_Ear_rows
  | exact pi_Ear_0
  | exact pi_Ear_1
  | exact pi_Ear_2
  | fail)
local macro_rules | `(tactic| wtm_at "lz") => `(tactic| with_reducible first
  | exact lz_Ear
  | (simp only [List.length_cons, List.length_nil]; decide)
  | exact (by decide)
  | fail)
local macro_rules | `(tactic| wtm_at "hf") => `(tactic| first
  | assumption
  | (refine' hf_s ?hs ?hx; (case hs => assumption); (case hx => wtm_at "hf"))
  | (refine' hf_n ?hs ?hx ?ne; (case hs => assumption); (case hx => wtm_at "hf"); (case ne => wtm_at "ne"))
  | (refine' hf_e ?hs ?hx ?hy; (case hs => assumption); (case hx => wtm_at "hf"); (case hy => wtm_at "nin"))
  | fail)
local macro_rules | `(tactic| wtm_at "ne") => `(tactic| first
  | assumption
  | (apply Ne.symm; assumption)
  | (refine' ne_of_none ?hx ?hy; (case hy => assumption); (case hx => wtm_at "hf"))
  | (refine' (ne_of_none ?hx ?hy).symm; (case hy => assumption); (case hx => wtm_at "hf"))
  | (refine' ne_of ?hx ?hy ?hz; (case hx => assumption); (case hy => assumption); (case hz => intro z; cases z))
  | fail)
local macro_rules | `(tactic| wtm_at "nin") => `(tactic| first
  | assumption
  | exact notin_nil
  | (refine' notin_cons ?hx ?hy; (case hx => wtm_at "ne"); (case hy => wtm_at "nin"))
  | fail)
local macro_rules | `(tactic| wtm_at "mem") => `(tactic| first
  | assumption
  | exact List.mem_cons_self
  | (refine' List.mem_cons_of_mem _ ?hx; (case hx => wtm_at "mem"))
  | fail)
local macro_rules | `(tactic| wtm_at "wr") => `(tactic| first
  | exact Or.inr (by assumption)
  | exact Or.inl (by wtm_at "mem")
  | fail)
local macro_rules | `(tactic| wtm_at "lv") => `(tactic| first
  | assumption
  | exact Live.nil
  | (refine' Live.cons ?hx ?hy; (case hx => wtm_at "hf"); (case hy => wtm_at "lv"))
  | fail)
local macro_rules | `(tactic| wtm_at "run") => `(tactic| first
  | assumption
  | (refine' Run.same ?hx ?hy; (case hy => assumption); (case hx => wtm_at "run"))
  | fail)
local macro_rules | `(tactic| wtm_at "sq") => `(tactic| first
  | assumption
  | (refine' Run.seq ?hx ?hy; (case hx => assumption); (case hy => assumption))
  | (refine' SqL.of ?hx; (case hx => wtm_at "hf"))
  | (refine' Same.seq ?hx ?hy; (case hx => assumption); (case hy => wtm_at "sq"))
  | (refine' Ext.seqL ?hx ?hz ?hy; (case hx => assumption); (case hy => wtm_at "sq"); (case hz => wtm_at "nin"))
  | fail)
local macro_rules | `(tactic| wtm_at "st") => `(tactic| first
  | assumption
  | (refine' SqT.of ?hx; (case hx => wtm_at "hf"))
  | fail)
local macro_rules | `(tactic| wtm_at "ix") => `(tactic| first
  | assumption
  | exact rfl
  | fail)
local macro_rules | `(tactic| wtm_at "sz") => `(tactic| first
  | wtm_at "rl"
  | with_reducible assumption
  | (rw [ik_len]; wtm_at "sz")
  | (rw [sk_len]; wtm_at "sz")
  | exact smallM (by assumption)
  | exact smallM (by omega)
  | exact smallM (by simp only [List.length_cons, List.length_nil, List.length_append, List.length_map]; omega)
  | fail)
local macro_rules | `(tactic| wtm_at "tx") => `(tactic| first
  | assumption
  | ((with_reducible refine' Tx.app ?hx ?hy); (case hx => wtm_at "tx"); (case hy => wtm_at "tx"))
  | ((with_reducible refine' Tx.cut ?hx); (case hx => wtm_at "tx"))
  | with_reducible exact Tx.nil
  | fail)
local macro_rules | `(tactic| wtm_at "k") => `(tactic| first
  | with_reducible refine k_seq ?_
  | with_reducible refine k_next ?_
  | with_reducible refine k_asg ?_
  | with_reducible refine k_ret ?_
  | with_reducible refine k_retN ?_
  | with_reducible refine k_drop ?_
  | with_reducible refine k_ifS ?_
  | ((with_reducible refine' k_var ?hx ?_); (case hx => exact rfl))
  | with_reducible refine k_c ?_
  | with_reducible refine k_negc ?_
  | with_reducible refine k_neg ?_
  | with_reducible refine l_neg ?_
  | with_reducible refine k_op ?_
  | with_reducible refine k_cb ?_
  | with_reducible refine k_nil ?_
  | with_reducible refine k_cons ?_
  | with_reducible refine k_test ?_
  | with_reducible refine k_B ?_
  | with_reducible refine k_not ?_
  | with_reducible refine k_and ?_
  | with_reducible refine k_or ?_
  | with_reducible refine k_notV ?_
  | with_reducible refine k_andV ?_
  | with_reducible refine k_orV ?_
  | with_reducible refine k_bl ?_
  | with_reducible refine k_add ?_
  | with_reducible refine k_sub ?_
  | ((with_reducible refine' k_mod ?hx ?_); (case hx => first | decide | omega))
  | ((with_reducible refine' k_div ?hx ?_); (case hx => first | exact ⟨by decide, by decide⟩ | exact ⟨by omega, by omega⟩))
  | ((with_reducible refine' k_mul ?hx ?_); (case hx => first | exact Or.inl ⟨by decide, by decide⟩ | exact Or.inr ⟨by decide, by decide⟩ | exact Or.inl ⟨by omega, by omega⟩))
  | with_reducible refine k_p6 ?_
  | with_reducible refine k_p9 ?_
  | with_reducible refine k_p12 ?_
  | with_reducible refine k_p13 ?_
  | with_reducible refine k_p18 ?_
  | with_reducible refine k_p30 ?_
  | with_reducible refine k_lt ?_
  | with_reducible refine k_le ?_
  | with_reducible refine k_gt ?_
  | with_reducible refine k_ge ?_
  | with_reducible refine k_eq ?_
  | with_reducible refine k_ne ?_
  | with_reducible refine k_seqS ?_
  | with_reducible refine k_neS ?_
  | with_reducible refine k_neB ?_
  | with_reducible refine k_isN ?_
  | with_reducible refine k_noN ?_
  | with_reducible refine k_fld ?_
  | ((with_reducible refine' l_fld ?hx ?hy ?_); (case hx => wtm_at "hf"); (case hy => wtm_at "lk"))
  | with_reducible refine k_fldS ?_
  | ((with_reducible refine' l_fldS ?hr ?hx ?hz ?hy ?hw ?_); (case hr => wtm_at "run"); (case hx => wtm_at "hf"); (case hy => wtm_at "pt"); (case hz => wtm_at "lz"); (case hw => wtm_at "wr"); intro _ _ _ _)
  | ((with_reducible refine' l_new ?hr ?_); (case hr => wtm_at "run"); intro _ _ _ _ _ _ _ _)
  | with_reducible refine k_append ?_
  | ((with_reducible refine' l_tyL ?hx ?_); (case hx => wtm_at "hf"))
  | ((with_reducible refine' l_ins ?hx ?hy ?_); (case hx => wtm_at "hf"); (case hy => wtm_at "lm"))
  | with_reducible refine k_methS ?_
  | with_reducible refine k_methG ?_
  | with_reducible refine k_makeG ?_
  | with_reducible refine k_meth0 ?_
  | with_reducible refine k_callS ?_
  | with_reducible refine k_callE ?_
  | with_reducible refine k_dget ?_
  | with_reducible refine k_din ?_
  | with_reducible refine k_dnotin ?_
  | with_reducible refine k_dput ?_
  | with_reducible refine k_dpop ?_
  | with_reducible refine k_dget2 ?_
  | with_reducible refine k_tup ?_
  | with_reducible refine k_lst ?_
  | with_reducible refine k_dnew ?_
  | ((with_reducible refine' l_tup ?hx ?_); (case hx => simp only [List.length_cons, List.length_nil]; decide))
  | ((with_reducible refine' l_lst ?hx ?_); (case hx => simp only [List.length_cons, List.length_nil]; decide))
  | ((with_reducible refine' l_isD ?hx ?_); (case hx => wtm_at "hf"))
  | ((with_reducible refine' l_dinI ?hx ?_); (case hx => wtm_at "hf"))
  | ((with_reducible refine' l_dinS ?hx ?_); (case hx => wtm_at "hf"))
  | ((with_reducible refine' l_dnotinI ?hx ?_); (case hx => wtm_at "hf"))
  | ((with_reducible refine' l_dnotinS ?hx ?_); (case hx => wtm_at "hf"))
  | ((with_reducible refine' l_dputI ?hr ?hx ?hz ?hy ?hw ?_); (case hr => wtm_at "run"); (case hx => wtm_at "hf"); (case hy => wtm_at "pk"); (case hz => wtm_at "sz"); (case hw => wtm_at "wr"); intro _ _ _ _)
  | ((with_reducible refine' l_dputS ?hr ?hx ?hz ?hy ?hw ?_); (case hr => wtm_at "run"); (case hx => wtm_at "hf"); (case hy => wtm_at "pk"); (case hz => wtm_at "sz"); (case hw => wtm_at "wr"); intro _ _ _ _)
  | ((with_reducible refine' l_dpopI ?hr ?hx ?hz ?hy ?hw ?_); (case hr => wtm_at "run"); (case hx => wtm_at "hf"); (case hy => wtm_at "pk"); (case hz => wtm_at "vk"); (case hw => wtm_at "wr"); intro _ _ _ _)
  | ((with_reducible refine' l_dpopS ?hr ?hx ?hz ?hy ?hw ?_); (case hr => wtm_at "run"); (case hx => wtm_at "hf"); (case hy => wtm_at "pk"); (case hz => wtm_at "vk"); (case hw => wtm_at "wr"); intro _ _ _ _)
  | ((with_reducible refine' l_dgetI ?hx ?hz ?_); (case hx => wtm_at "hf"); (case hz => wtm_at "vk"))
  | ((with_reducible refine' l_dgetS ?hx ?hz ?_); (case hx => wtm_at "hf"); (case hz => wtm_at "vk"))
  | ((with_reducible refine' l_dgetIF ?hx ?hz ?_); (case hx => wtm_at "hf"); (case hz => wtm_at "vk"))
  | ((with_reducible refine' l_dgetSF ?hx ?hz ?_); (case hx => wtm_at "hf"); (case hz => wtm_at "vk"))
  | ((with_reducible refine' k_disp ?hr ?_); (case hr => wtm_at "run"); intro _ _ _ _ _ _ _ _)
  | with_reducible refine k_pcons ?_
  | with_reducible refine k_pnil ?_
  | ((with_reducible refine' l_disp ?hr ?hx ?hu ?hv ?hy ?hw ?_); (case hr => wtm_at "run"); (case hx => wtm_at "hf"); (case hu => exact rfl); (case hv => simp only [List.length_map, List.length_cons, List.length_nil]; decide); (case hy => wtm_at "rm"); (case hw => wtm_at "wr"); intro _ _ _ _)
  | ((with_reducible refine' l_append ?hr ?hx ?hz ?hw ?_); (case hr => wtm_at "run"); (case hx => wtm_at "hf"); (case hz => wtm_at "sz"); (case hw => wtm_at "wr"); intro _ _ _ _)
  | ((with_reducible refine' l_isEt ?hx ?_); (case hx => first | exact isD (ExcK.kit (by assumption) _ (by wtm_at "mem") _ (by wtm_at "mem")) | exact isC (ExcK.kit (by assumption) _ (by wtm_at "mem") _ (by wtm_at "mem")) (by decide)))
  | ((with_reducible refine' l_isEV ?hx ?_); (case hx => exact ExcK.kitV (by assumption) _ (by wtm_at "mem")))
  | ((with_reducible refine' l_isiI ?hx ?_); (case hx => first | rfl | assumption))
  | ((with_reducible refine' l_isiB ?hx ?_); (case hx => first | rfl | assumption))
  | with_reducible refine l_isiSS ?_
  | ((with_reducible refine' l_isiS ?hx ?_); (case hx => first | rfl | assumption))
  | ((with_reducible refine' l_isiL ?hx ?_); (case hx => wtm_at "hf"))
  | ((with_reducible refine' l_isiT ?hx ?_); (case hx => wtm_at "hf"))
  | ((with_reducible refine' l_lenL ?hx ?_); (case hx => wtm_at "sq"))
  | ((with_reducible refine' l_lenT ?hx ?_); (case hx => wtm_at "st"))
  | ((with_reducible refine' l_ixL ?hx ?hy ?_); (case hx => wtm_at "sq"); (case hy => wtm_at "ix"))
  | ((with_reducible refine' l_ixT ?hx ?hy ?_); (case hx => wtm_at "st"); (case hy => wtm_at "ix"))
  | with_reducible refine k_m1 ?_
  | with_reducible refine l_strX ?_
  | with_reducible refine l_sw ?_
  | ((with_reducible refine' x_addS ?hx ?hy ?hz ?_); (case hx => wtm_at "tx"); (case hy => wtm_at "tx"); (case hz => decide))
  | ((with_reducible refine' x_slS ?hx ?hz ?_); (case hx => wtm_at "tx"); (case hz => decide))
  | ((with_reducible refine' x_lenX ?hx ?hz ?_); (case hx => wtm_at "tx"); (case hz => decide))
  | with_reducible refine l_max ?_
  | with_reducible refine l_min ?_
  | with_reducible refine l_abs ?_
  | with_reducible refine k_sl ?_
  | with_reducible refine k_part ?_
  | with_reducible refine l_part ?_
  | with_reducible refine k_nopart ?_
  | with_reducible refine k_yes ?_
  | ((with_reducible refine' l_slL ?hr ?hx ?_); (case hr => wtm_at "run"); (case hx => wtm_at "sq"); intro _ _ _ _ _ _ _ _)
  | with_reducible refine k_lcL ?_
  | with_reducible refine k_lcR ?_
  | with_reducible refine k_for ?_
  | with_reducible refine k_rng1 ?_
  | with_reducible refine k_rng2 ?_
  | with_reducible refine k_rng3 ?_
  | with_reducible refine k_makeS ?_
  | ((with_reducible refine' l_make ?hr ?_); (case hr => wtm_at "run"); intro _ _ _ _ _ _ _ _ _)
  | with_reducible refine k_ntt ?_
  | with_reducible refine k_ntf ?_
  | with_reducible refine k_clear ?_
  | ((with_reducible refine' l_clear ?hr ?hx ?hw ?_); (case hr => wtm_at "run"); (case hx => wtm_at "hf"); (case hw => wtm_at "wr"); intro _ _ _ _)
  | with_reducible refine k_ift ?_
  | with_reducible refine k_iff ?_
  | with_reducible refine g_name ?_
  | with_reducible refine k_revL ?_
  | ((with_reducible refine' l_tupL ?hx ?_); (case hx => wtm_at "sq"))
  | with_reducible refine l_intB ?_
  | ((with_reducible refine' l_rev ?hx ?_); (case hx => wtm_at "sq"))
  | ((with_reducible refine' l_gT2 ?hn ?hx ?_); (case hn => exact rfl); (case hx => wtm_at "st"))
  | ((with_reducible refine' l_listL ?hx ?_); (case hx => wtm_at "sq"))
  | ((with_reducible refine' l_listT ?hx ?_); (case hx => wtm_at "st"))
  | fail)
local macro_rules | `(tactic| wtm_at "k") => `(tactic| first
  | with_reducible refine k_wholeI ?_
  | ((with_reducible refine' k_whole ?hx ?_); (case hx => first | rfl | assumption))
  | ((with_reducible refine' k_cell ?hx ?hy ?_); (case hx => first | decide | omega | assumption); (case hy => wtm_at "sq"))
  | fail)
section
variable {K : PySem.W.Frag} {σ : St} {H : Hp} {Q : VK} {te tl : TE} {tt : TT} {g : TG} {vs : List Nat} {ta : TA} {α : Type} {f : α → List V}
/-- a comprehension over a range whose items are objects: what is said of them may speak of the list's own place -/
theorem l_lcRD {n : Nat} {j : Nat} (hb : n ≤ 100000) (P : Addr → Nat → List V → Hp → Prop) (h0 : ∀ D, H D = none → P D 0 [] (upd H D (.lst [])))
    (hs : ∀ D (i : Nat) acc H1 (R : VK) (R0 : Hp → Prop), i < n → H D = none → Ext [] H H1 → H1 D = some (.lst acc) → acc.length ≤ i → P D i acc H1 →
      (∀ y H4, Ext [] H1 H4 → P D (i + 1) (acc ++ [y]) (upd H4 D (.lst (acc ++ [y]))) → R y H4) → (∀ H3, Ext [] H1 H3 → P D (i + 1) acc H3 → R0 H3) →
      tt (σ.set j (some (.int (0 + (i : Int))))) H1 fun b H3 => if b = true then te (σ.set j (some (.int (0 + (i : Int))))) H3 R else R0 H3)
    (q : ∀ D H' acc, H D = none → Ext [] H H' → H' D = some (.lst acc) → acc.length ≤ n → P D n acc H' → Q (.ref D) H') : LLr (gName j) tt te [j] σ [.int n] H Q := by
  refine ⟨n, rfl, by omega, by omega, fun D hD => ?_⟩
  rw [Int.toNat_natCast]
  refine ⟨fun i m H1 => m = n - i ∧ i ≤ n ∧ Ext [] H H1 ∧ ∃ acc, H1 D = some (.lst acc) ∧ acc.length ≤ i ∧ P D i acc H1, ⟨n, by simp, Nat.zero_le _, Ext.new hD, [], upd_same, Nat.le_refl _, h0 D hD⟩, ?_⟩
  rintro i m H1 ⟨rfl, hi, e, acc, hA, hl, p⟩
  by_cases hlt : i < n
  · refine .inr ⟨hlt, fun H' => i + 1 ≤ n ∧ Ext [] H H' ∧ ∃ acc, H' D = some (.lst acc) ∧ acc.length ≤ i + 1 ∧ P D (i + 1) acc H', fun H' p' => ⟨n - (i + 1), by omega, rfl, p'⟩, fun x H' y => ?_⟩
    obtain ⟨rfl, rfl⟩ := y
    refine ⟨wipe1 σ j _, ?_⟩
    rw [show (wipe σ [j]).set j (some (V.int (0 + (i : Int)))) = σ.set j (some (V.int (0 + (i : Int)))) from sets3 σ j _]
    refine hs D i acc H' _ _ hlt hD e hA hl p (fun y H4 e4 p4 => ?_) fun H3 e3 p3 => ?_
    · have h4 : H4 D = some (.lst acc) := e4.keep _ _ hA (by simp)
      exact ⟨acc, h4, Nat.lt_of_le_of_lt hl (Nat.lt_of_lt_of_le hlt (Nat.le_trans hb (by decide))), hlt, (e.trans e4).wrN h4 (fun xs z => by cases z) hD, acc ++ [y], upd_same, by rw [List.length_append]; simpa using hl, p4⟩
    · exact ⟨hlt, e.trans e3, acc, e3.keep _ _ hA (by simp), Nat.le_succ_of_le hl, p3⟩
  · have : i = n := by omega
    subst this
    exact .inl ⟨Nat.le_refl _, q D H1 acc hD e hA hl p⟩
/-- two lists of two lists of tuples -/
theorem l_neLL {a b xa ya xb yb : Addr} {l1 l2 l3 l4 : List V} {d0 d1 : List α} (hf : ∀ x, (f x).all plainV = true) (ha : SqL K H a [.ref xa, .ref ya]) (hb : SqL K H b [.ref xb, .ref yb])
    (h1 : SqL K H xa l1) (h2 : SqL K H ya l2) (h3 : SqL K H xb l3) (h4 : SqL K H yb l4) (p1 : Paired (IsT f H) l1 d0) (p2 : Paired (IsT f H) l2 d1) (p3 : Paired (IsT f H) l3 d0) (p4 : Paired (IsT f H) l4 d1) (q : Q (.bl false) H) : rNeD K (.ref a) (.ref b) H Q := by
  have sh : SeqAt.shaped (.list [.list (d0.map fun x => .tuple ((f x).map toD)), .list (d1.map fun x => .tuple ((f x).map toD))]) = true := by
    obtain ⟨a1, b1⟩ := lay_tups hf d0
    obtain ⟨a2, b2⟩ := lay_tups hf d1
    unfold SeqAt.shaped
    rw [Bool.and_eq_true, decide_eq_true_eq]
    constructor
    · simp [PyData.canLay0, PyData.canLayAll0, a1, a2]
    · simp [PyData.depth, PyData.depthAll]; omega
  exact ⟨_, _, .lst ha (.cons (.lst h1 (dp_tups hf p1)) (.cons (.lst h2 (dp_tups hf p2)) .nil)), .lst hb (.cons (.lst h3 (dp_tups hf p3)) (.cons (.lst h4 (dp_tups hf p4)) .nil)), sh, sh, by rw [SeqAt.eqv_refl _ (shaped_lay sh)]; exact q⟩
end
/-! ### how many keys stand -/
def Keys (ts : List Str) (l : List (Str × Str)) : Prop := (l.map (·.1)).Nodup ∧ ∀ k ∈ l.map (·.1), k ∈ ts
theorem Keys.put {ts : List Str} {l : List (Str × Str)} (h : Keys ts l) {k v : Str} (m : k ∈ ts) : Keys ts (aput l k v) := ⟨nodup_aput h.1, fun j hj => (mem_keys_aput.mp hj).elim (fun e => e ▸ m) (h.2 j)⟩
theorem Keys.drop {ts : List Str} {l : List (Str × Str)} (h : Keys ts l) {k : Str} : Keys ts (adrop l k) := ⟨nodup_adrop h.1, fun j hj => h.2 j (mem_keys_adrop.mp hj).1⟩
theorem keys_beg {ts : List Str} : ∀ {b : List SS} {l : List (Str × Str)}, (∀ p ∈ b, p.k ∈ ts) → Keys ts l → Keys ts (b.foldl (fun l (p : SS) => aput l p.k p.v) l)
  | [], _, _, h => h
  | p :: b, l, hb, h => keys_beg (b := b) (fun q m => hb q (List.mem_cons_of_mem _ m)) (h.put (hb p List.mem_cons_self))
theorem keys_ev {ts : List Str} : ∀ {rs : List Row} {l : List (Str × Str)}, (∀ r ∈ rs, r.k ∈ ts) → Keys ts l → Keys ts (rs.foldl stEv l)
  | [], _, _, h => h
  | r :: rs, l, hr, h => by
    refine keys_ev (rs := rs) (fun q m => hr q (List.mem_cons_of_mem _ m)) ?_
    unfold stEv
    split
    · exact h.put (hr r List.mem_cons_self)
    · exact h.drop
theorem keys_len {ts : List Str} {l : List (Str × Str)} (h : Keys ts l) : l.length ≤ ts.length := by
  have := nodup_sub h.1 h.2
  rwa [List.length_map] at this
theorem st_len {ts : List Str} {b : List SS} {rs : List Row} (hb : ∀ p ∈ b, p.k ∈ ts) (hr : ∀ r ∈ rs, r.k ∈ ts) : (stAll b rs).length ≤ ts.length :=
  keys_len (keys_ev hr (keys_beg hb ⟨List.nodup_nil, fun _ z => by cases z⟩))
def statT (pp lr ls lg le lt lk : Addr) (bb pE tt kk : Bool → Addr) (ts : List Str) (rs : List Row) (st : Bool → Int) (gs : Bool → List SS) : Thing where
  At := fun H F => F = [pp, lr, bb false, bb true, ls, lg, le, lt, lk] ∧ PoolAt H pp ts ∧ (∃ yr, H lr = some (.lst yr) ∧ Paired (IsR H) yr rs) ∧ (∀ b, ∃ xs, H (bb b) = some (.lst xs) ∧ Paired (IsS H) xs (gs b)) ∧
    H ls = some (.lst [.int (st false), .int (st true)]) ∧ H lg = some (.lst [.ref (bb false), .ref (bb true)]) ∧ H le = some (.lst [.ref (pE false), .ref (pE true)]) ∧ H lt = some (.lst [.ref (tt false), .ref (tt true)]) ∧ H lk = some (.lst [.ref (kk false), .ref (kk true)])
  ext := fun ⟨e0, h1, ⟨yr, h2, h3⟩, h4, h5, h6, h7, h8, h9⟩ e a => by
    subst e0
    refine ⟨rfl, h1.ext e (a _ (by simp)), ⟨yr, e.keep _ _ h2 (a _ (by simp)), keepT e.tups h3⟩, fun b => ?_, e.keep _ _ h5 (a _ (by simp)), e.keep _ _ h6 (a _ (by simp)), e.keep _ _ h7 (a _ (by simp)), e.keep _ _ h8 (a _ (by simp)), e.keep _ _ h9 (a _ (by simp))⟩
    obtain ⟨xs, h, p⟩ := h4 b
    exact ⟨xs, e.keep _ _ h (a _ (by cases b <;> simp)), keepT e.tups p⟩
  live := fun ⟨e0, h1, ⟨yr, h2, h3⟩, h4, h5, h6, h7, h8, h9⟩ => by
    subst e0
    obtain ⟨x0, g0, _⟩ := h4 false
    obtain ⟨x1, g1, _⟩ := h4 true
    exact Live.cons h1.at' (Live.cons h2 (Live.cons g0 (Live.cons g1 (Live.cons h5 (Live.cons h6 (Live.cons h7 (Live.cons h8 (Live.cons h9 Live.nil))))))))
def Rk (K : PySem.W.Frag) (X : Thing) (pE tt kk : Bool → Addr) (ts : List Str) (st : Bool → Int) (gs : Bool → List SS) (N : Nat) : Option Bool → Thing
  | none => X
  | some b => earTh K (pE b) (tt b) (kk b) (st b) (gs b) ts N
theorem rk_mono {K : PySem.W.Frag} {X : Thing} {pE tt kk : Bool → Addr} {ts : List Str} {st : Bool → Int} {gs : Bool → List SS} {N N' : Nat} {i : Option Bool} {H : Hp} {F : List Addr} (z : N ≤ N') (h : (Rk K X pE tt kk ts st gs N i).At H F) : (Rk K X pE tt kk ts st gs N' i).At H F :=
  match i, h with
  | none, h => h
  | some b, ⟨F, E, c, xs, e1, hE, ap, h1, h2, h3, h4, n, eb, eh, l, r⟩ => ⟨F, E, c, xs, e1, hE, ap, h1, h2, h3, h4, n, eb, eh, Nat.le_trans l z, r⟩
theorem ear_bump {K : PySem.W.Frag} {X : Thing} {pE tt kk : Bool → Addr} {ts : List Str} {st : Bool → Int} {gs : Bool → List SS} {N N' M : Nat} {H0 H H' : Hp} {F : Option Bool → List Addr} {b : Bool} {G : List Addr} (S : Wd H0 H F (Rk K X pE tt kk ts st gs N))
    (h : EarP K (pE b) (tt b) (kk b) (st b) (gs b) ts M H' G) (g : Grow H (F (some b)) G) (e : Ext (F (some b)) H H') (z1 : M ≤ N') (z2 : N ≤ N') : Wd H0 H' (at_ F (some b) G) (Rk K X pE tt kk ts st gs N') :=
  S.bump (i := some b) (fun z h => rk_mono z h) (rk_mono (K := K) (X := X) (pE := pE) (tt := tt) (kk := kk) (st := st) (gs := gs) (i := some b) z1 h) g e z2
theorem ixB {f : Bool → V} {i : Nat} (h : i < 2) : atI [f false, f true] (0 + (i : Int)) = some (f (decide (i = 1))) := by
  rcases (show i = 0 ∨ i = 1 by omega) with rfl | rfl <;> rfl
section
variable {P : Program} {w : World} {K : PySem.W.Frag} {mg : Str → Option Value} {base : Heap}
def Tn (K : PySem.W.Frag) (H0 : Hp) (a pp lr ls lg lh le lt lk : Addr) (X : Thing) (pE tt kk : Bool → Addr) (ts : List Str) (st : Bool → Int) (gs : Bool → List SS) (N : Nat) (σ : St) (H : Hp) : Prop :=
  ∃ v9 v10 v11 v12 v13 v14 F, σ = [some (.ref a), some (.ref pp), some (.ref lr), some (.ref ls), some (.ref lg), some (.ref lh), some (.ref le), some (.ref lt), some (.ref lk), v9, v10, v11, v12, v13, v14] ∧ Wd H0 H F (Rk K X pE tt kk ts st gs N)
def sp_law (K : PySem.W.Frag) : Sp := fun vs H Q _ => ∃ (a : Addr) (ns : List Int), vs = [.ref a] ∧ ns.length ≤ 63 ∧ SqL K H a (ns.map V.int) ∧ ∀ H', Q (.bl true) H'
theorem sc_law : FnScope ["_law_script", "_law_pool_here", "_law_rows_here", "_law_starts", "_law_given", "_law_handed", "_law_ears", "_law_taken", "_law_kept", "_law_k", "_law_which", "_law_low", "_law_more", "_law_batch", "_law_due"] ["_law_script"] (defScope s_law) := ⟨rfl, rfl, rfl, by decide +kernel, rfl, by decide +kernel, by decide +kernel⟩
theorem ok_law (T : FX K mg) : FnOk P w K mg base (L2N.CX P w) 5 (He.ga K "law") (fdAt K ("law", none)) ["_law_script"] (sp_law K) := by
  refine FunD.ok T.F_law sc_law (fun vs H Q E h => ?_) (fun cdv A outer s H vs Q E hr h => ?_)
  · (repeat (obtain ⟨_, h⟩ := h)); subst_vars; rfl
  · have hu := hu_of hr
    have hu64 := hr.units
    refine ⟨_,
      (pss_cons
        (ps_set (i := 1) sc_law.nd rfl (Or.inl rfl) (pe_callS (ok_l_pool T) (hr.mono (j := 3) (by decide)) rfl T.g_l_pool T.k_l_pool T.b_l_pool (fun σ => L2N.passAt tkd σ) (pa_cons (pe_callS (ok_l_cell_at T) (hr.mono (j := 1) (by decide)) rfl T.g_l_cell_at T.k_l_cell_at T.b_l_cell_at (fun σ => L2N.passAt tkd σ) (pa_cons (pv 0) (pa_cons pe_int pa_nil))) (pa_cons (pe_callS (ok_l_cell_at T) (hr.mono (j := 1) (by decide)) rfl T.g_l_cell_at T.k_l_cell_at T.b_l_cell_at (fun σ => L2N.passAt tkd σ) (pa_cons (pv 0) (pa_cons pe_int pa_nil))) pa_nil))))
      (pss_cons
        (ps_set (i := 2) sc_law.nd rfl (Or.inl rfl) (pe_callS (ok_l_rows T) (hr.mono (j := 3) (by decide)) rfl T.g_l_rows T.k_l_rows T.b_l_rows (fun σ => L2N.passAt tkd σ) (pa_cons (pv 0) (pa_cons (pv 1) pa_nil))))
      (pss_cons
        (ps_set (i := 3) sc_law.nd rfl (Or.inr rfl) (pe_lst (pa_cons pe_int (pa_cons (pe_op oIadd pe_int (pe_op oImod (pe_op oIdiv (pe_callS (ok_l_cell_at T) (hr.mono (j := 1) (by decide)) rfl T.g_l_cell_at T.k_l_cell_at T.b_l_cell_at (fun σ => L2N.passAt tkd σ) (pa_cons (pv 0) (pa_cons pe_int pa_nil))) pe_int) pe_int)) pa_nil))))
      (pss_cons
        (ps_set (i := 4) sc_law.nd rfl (Or.inl rfl) (pe_lst (pa_cons (pe_callS (ok_l_begin T) (hr.mono (j := 3) (by decide)) rfl T.g_l_begin T.k_l_begin T.b_l_begin (fun σ => L2N.passAt tkd σ) (pa_cons (pv 1) (pa_cons (pe_callS (ok_l_cell_at T) (hr.mono (j := 1) (by decide)) rfl T.g_l_cell_at T.k_l_cell_at T.b_l_cell_at (fun σ => L2N.passAt tkd σ) (pa_cons (pv 0) (pa_cons pe_int pa_nil))) pa_nil))) (pa_cons (pe_callS (ok_l_begin T) (hr.mono (j := 3) (by decide)) rfl T.g_l_begin T.k_l_begin T.b_l_begin (fun σ => L2N.passAt tkd σ) (pa_cons (pv 1) (pa_cons (pe_op oIdiv (pe_callS (ok_l_cell_at T) (hr.mono (j := 1) (by decide)) rfl T.g_l_cell_at T.k_l_cell_at T.b_l_cell_at (fun σ => L2N.passAt tkd σ) (pa_cons (pv 0) (pa_cons pe_int pa_nil))) pe_int) pa_nil))) pa_nil))))
      (pss_cons
        (ps_set (i := 5) sc_law.nd rfl (Or.inr rfl) (pe_lst (pa_cons (pe_callTy oList (by rfl) T.f_list boot_list (pa_cons (pe_ix ix_list (pv 4) pe_int (fun _ _ => rfl)) pa_nil)) (pa_cons (pe_callTy oList (by rfl) T.f_list boot_list (pa_cons (pe_ix ix_list (pv 4) pe_int (fun _ _ => rfl)) pa_nil)) pa_nil))))
      (pss_cons
        (ps_setLc (i := 6) (own := [("_law_k", 9)]) (g := gName 9) rfl sc_law.nd rfl rfl (sw_true rfl rfl rfl (by decide +kernel)) (pi_range1 rfl T.f_range (pa_cons pe_int pa_nil)) (blkOk_by (N := ["_law_script", "_law_pool_here", "_law_rows_here", "_law_starts", "_law_given", "_law_handed", "_law_ears", "_law_taken", "_law_kept", "_law_k", "_law_which", "_law_low", "_law_more", "_law_batch", "_law_due"]) (sc := defScope s_law) (by decide +kernel)) (fun _ _ _ _ _ => (pg_name (i := 9) sc_law.nd rfl (Or.inl rfl))) (fun _ _ _ _ _ => pts_nil) (fun _ _ _ _ _ => (pe_callS (ok_l_made T) (hr.mono (j := 3) (by decide)) rfl T.g_l_made T.k_l_made T.b_l_made (fun σ => L2N.passAt tk0 σ) (pa_cons (pe_ix (ix_listK (K := K) rfl) (pv 3) (pv 9) (fun _ _ => rfl)) (pa_cons (pe_ix (ix_listK (K := K) rfl) (pv 5) (pv 9) (fun _ _ => rfl)) (pa_cons (pe_callS (ok_l_cell_at T) (hr.mono (j := 1) (by decide)) rfl T.g_l_cell_at T.k_l_cell_at T.b_l_cell_at (fun σ => L2N.passAt tk0 σ) (pa_cons (pv 0) (pa_cons pe_int pa_nil))) pa_nil))))))
      (pss_cons
        (ps_set (i := 7) sc_law.nd rfl (Or.inl rfl) (pe_lst (pa_cons (pe_lst pa_nil) (pa_cons (pe_lst pa_nil) pa_nil))))
      (pss_cons
        (ps_set (i := 8) sc_law.nd rfl (Or.inl rfl) (pe_lst (pa_cons (pe_disp (pps_cons pe_str (pe_lst pa_nil) pps_nil) (by rfl) (by rfl) (fun z => by cases z) (by decide)) (pa_cons (pe_disp (pps_cons pe_str (pe_lst pa_nil) pps_nil) (by rfl) (by rfl) (fun z => by cases z) (by decide)) pa_nil))))
      (pss_cons
        (ps_if (pt_cmpR (op_neD hu64) (pv 5) (pv 4) (nomark _))
          (pss_one
            (ps_ret pe_bl))
          pss_nil)
      (pss_cons
        (ps_expr (pe_bm0 PySem.F.plainAttrs_list PySem.F.slot_list_clear PySem.F.type_list_clear mt_clear (pe_ix ix_list (pv 5) pe_int (fun _ _ => rfl))))
      (pss_cons
        (ps_expr (pe_bm0 PySem.F.plainAttrs_list PySem.F.slot_list_clear PySem.F.type_list_clear mt_clear (pe_ix ix_list (pv 5) pe_int (fun _ _ => rfl))))
      (pss_cons
        (ps_for pod rfl (pi_range2 rfl T.f_range (pa_cons pe_int (pa_cons (pe_callB oLen (by rfl) T.f_len PySem.boot_len (pa_cons (pv 0) pa_nil)) pa_nil))) (pg_name (i := 9) sc_law.nd rfl (Or.inl rfl))
          (pss_cons
            (ps_set (i := 10) sc_law.nd rfl (Or.inl rfl) (pe_op oImod (pe_ix ix_list (pv 0) (pv 9) (fun _ _ => rfl)) pe_int))
          (pss_cons
            (ps_set (i := 11) sc_law.nd rfl (Or.inl rfl) (pe_op oImod (pe_op oIdiv (pe_ix ix_list (pv 0) (pv 9) (fun _ _ => rfl)) pe_int) (pe_op oIadd (pe_callB oLen (by rfl) T.f_len PySem.boot_len (pa_cons (pv 2) pa_nil)) pe_int)))
          (pss_cons
            (ps_set (i := 12) sc_law.nd rfl (Or.inl rfl) (pe_op oIdiv (pe_op oIdiv (pe_ix ix_list (pv 0) (pv 9) (fun _ _ => rfl)) pe_int) (pe_op oIadd (pe_callB oLen (by rfl) T.f_len PySem.boot_len (pa_cons (pv 2) pa_nil)) pe_int)))
          (pss_cons
            (ps_set (i := 13) sc_law.nd rfl (Or.inl rfl) (pe_slice sl_list (pv 2) (po_some (pv 11)) (po_some (pe_op oIadd (pv 11) (pe_op oImod (pv 12) pe_int)))))
          (pss_cons
            (ps_if (pt_cmpR oIeq (pe_op oImod (pe_op oIdiv (pv 12) pe_int) pe_int) pe_int (nomark _))
              (pss_one
                (ps_set (i := 13) sc_law.nd rfl (Or.inl rfl) (pe_revL (pv 13))))
              pss_nil)
          (pss_cons
            (ps_if (pt_cmpR oIeq (pe_op oImod (pe_op oIdiv (pv 12) pe_int) pe_int) pe_int (nomark _))
              (pss_one
                (ps_set (i := 13) sc_law.nd rfl (Or.inl rfl) (pe_op op_cat (pv 13) (pe_slice sl_list (pv 2) po_none (po_some (pe_op oImod (pe_op oIdiv (pv 12) pe_int) pe_int))))))
              pss_nil)
          (pss_cons
            (ps_if (pt_not (pt_val (pe_callS (ok_l_heard T) (hr.mono (j := 4) (by decide)) rfl T.g_l_heard T.k_l_heard T.b_l_heard (fun σ => L2N.passAt tkd σ) (pa_cons (pe_ix ix_list (pv 6) (pv 10) (fun _ _ => rfl)) (pa_cons (pe_ix ix_list (pv 7) (pv 10) (fun _ _ => rfl)) (pa_cons (pe_ix ix_list (pv 3) (pv 10) (fun _ _ => rfl)) (pa_cons (pv 13) (pa_cons (pe_ix ix_list (pv 8) (pv 10) (fun _ _ => rfl)) pa_nil))))))))
              (pss_one
                (ps_ret pe_bl))
              pss_nil)
          (pss_cons
            (ps_set (i := 14) sc_law.nd rfl (Or.inl rfl) (pe_callS (ok_l_state T) (hr.mono (j := 1) (by decide)) rfl T.g_l_state T.k_l_state T.b_l_state (fun σ => L2N.passAt tkd σ) (pa_cons (pe_ix ix_list (pv 4) (pv 10) (fun _ _ => rfl)) (pa_cons (pe_ix ix_list (pv 7) (pv 10) (fun _ _ => rfl)) pa_nil))))
          (pss_one
            (ps_if (PW.pt (pw_and (pt_cmpR oIeq (pe_op oImod (pe_op oIadd (pv 9) (pe_ix ix_list (pv 0) (pv 9) (fun _ _ => rfl))) pe_int) pe_int (nomark _)) (pw_and1 (pt_not (pt_val (pe_callS (ok_l_pairs T) (hr.mono (j := 1) (by decide)) rfl T.g_l_pairs T.k_l_pairs T.b_l_pairs (fun σ => L2N.passAt tkd σ) (pa_cons (pe_meth0S (pe_ix ix_list (pv 6) (pv 10) (fun _ _ => rfl)) T.cl_Ear T.me_Ear_state (ok_Ear_state T) (hr.mono (j := 1) (by decide)) T.b_Ear_state (fun σ => L2N.passAt tkd σ)) (pa_cons (pv 14) pa_nil))))))))
              (pss_one
                (ps_ret pe_bl))
              pss_nil)))))))))))
      (pss_cons
        (ps_for pod rfl (pi_range1 rfl T.f_range (pa_cons pe_int pa_nil)) (pg_name (i := 9) sc_law.nd rfl (Or.inl rfl))
          (pss_cons
            (ps_if (pt_not (pt_val (pe_callS (ok_l_heard T) (hr.mono (j := 4) (by decide)) rfl T.g_l_heard T.k_l_heard T.b_l_heard (fun σ => L2N.passAt tkd σ) (pa_cons (pe_ix ix_list (pv 6) (pv 9) (fun _ _ => rfl)) (pa_cons (pe_ix ix_list (pv 7) (pv 9) (fun _ _ => rfl)) (pa_cons (pe_ix ix_list (pv 3) (pv 9) (fun _ _ => rfl)) (pa_cons (pv 2) (pa_cons (pe_ix ix_list (pv 8) (pv 9) (fun _ _ => rfl)) pa_nil))))))))
              (pss_one
                (ps_ret pe_bl))
              pss_nil)
          (pss_one
            (ps_if (pt_not (pt_val (pe_callS (ok_l_pairs T) (hr.mono (j := 1) (by decide)) rfl T.g_l_pairs T.k_l_pairs T.b_l_pairs (fun σ => L2N.passAt tkd σ) (pa_cons (pe_meth0S (pe_ix ix_list (pv 6) (pv 9) (fun _ _ => rfl)) T.cl_Ear T.me_Ear_state (ok_Ear_state T) (hr.mono (j := 1) (by decide)) T.b_Ear_state (fun σ => L2N.passAt tkd σ)) (pa_cons (pe_callS (ok_l_state T) (hr.mono (j := 1) (by decide)) rfl T.g_l_state T.k_l_state T.b_l_state (fun σ => L2N.passAt tkd σ) (pa_cons (pe_ix ix_list (pv 4) (pv 9) (fun _ _ => rfl)) (pa_cons (pe_ix ix_list (pv 7) (pv 9) (fun _ _ => rfl)) pa_nil))) pa_nil)))))
              (pss_one
                (ps_ret pe_bl))
              pss_nil))))
      (pss_one
        (ps_ret pe_bl))))))))))))))), ?_⟩
    obtain ⟨a, ns, rfl, hl, hS, k⟩ := h
    have R0 : Run [] H H := Run.start Live.nil
    repeat wtm_at "k"
    refine ⟨_, _, rfl, fun pp Ha ts fpp ea hpp => ?_⟩
    have Sa : SqL K Ha a (ns.map V.int) := ea.seqL (by simp) hS
    have ra : Run [] H Ha := R0.same ea
    repeat wtm_at "k"
    refine ⟨a, ns, pp, ts, rfl, hl, Sa, hpp, fun lr Hb yr rs flr eb hlr pr zr kr => ?_⟩
    have Sb : SqL K Hb a (ns.map V.int) := eb.seqL (by simp) Sa
    have rb : Run [] H Hb := ra.same eb
    repeat wtm_at "k"
    rename_i ls Hc c1 c2 c3 rc gls sc
    have hppc := hpp.ext (eb.trans (Same.ext sc)) (by simp)
    refine ⟨pp, ts, _, rfl, hppc, fun b0 Hd xs0 gs0 fb0 ed hb0 pb0 zb0 kb0 => ?_⟩
    have Sd : SqL K Hd a (ns.map V.int) := (rc.ext.trans ed).seqL (by simp) hS
    repeat wtm_at "k"
    have hppd := hppc.ext ed (by simp)
    refine ⟨pp, ts, _, rfl, hppd, fun b1 He xs1 gs1 fb1 ee hb1 pb1 zb1 kb1 => ?_⟩
    have re : Run [] H He := Run.same (Run.same (by assumption) ed) ee
    have Se : SqL K He a (ns.map V.int) := re.ext.seqL (by simp) hS
    repeat wtm_at "k"
    rename_i lg Hf d1 d2 d3 rf glg sf h0 Hg e1 e2 e3 rg gh0 sg h1 Hh f1 f2 f3 rh gh1 sh lh Hi g1 g2 g3 ri glh si
    have hls : Hi ls = some (.lst [.int 1, .int (1 + cellD ns 2 / 3 % 90)]) := by wtm_at "hf"
    have hh0 : Hi h0 = some (.lst xs0) := by wtm_at "hf"
    have hh1 : Hi h1 = some (.lst xs1) := by wtm_at "hf"
    have p0 : Paired (IsS Hi) xs0 gs0 := keepT (fun a xs h => by wtm_at "hf") pb0
    have p1 : Paired (IsS Hi) xs1 gs1 := keepT (fun a xs h => by wtm_at "hf") pb1
    have Si : SqL K Hi a (ns.map V.int) := ri.ext.seqL (by simp) hS
    refine l_lcRD (n := 2) (j := 9) (by decide) (fun D i acc H' => match i with
      | 0 => acc = []
      | 1 => ∃ p F, acc = [.ref p] ∧ EarAt K H' p F ⟨1 - 1, gs0, []⟩ ∧ (∀ c ∈ F, Hi c = none) ∧ D ∉ F
      | _ => ∃ p F p' F', acc = [.ref p, .ref p'] ∧ EarAt K H' p F ⟨1 - 1, gs0, []⟩ ∧ EarAt K H' p' F' ⟨1 + cellD ns 2 / 3 % 90 - 1, gs1, []⟩ ∧ (∀ c ∈ F, Hi c = none) ∧ (∀ c ∈ F', Hi c = none) ∧ Apart F F' ∧ D ∉ F ∧ D ∉ F')
      (fun D hD => rfl) (fun D i acc H1 R R0' hi hD e1 hA hl hP q1 q0 => ?_) (fun le Hj acc nD ej hD lD hP => ?_)
    · have R1 : Run [] H1 H1 := Run.start Live.nil
      have x1 := e1.keep _ _ hls (by simp)
      have x2 := e1.keep _ _ hh0 (by simp)
      have x3 := e1.keep _ _ hh1 (by simp)
      have x4 := e1.keep _ _ glh (by simp)
      have S1 := e1.seqL (by simp) Si
      rcases (show i = 0 ∨ i = 1 by omega) with rfl | rfl
      · obtain rfl : acc = [] := hP
        repeat wtm_at "k"
        refine ⟨_, h0, xs0, gs0, _, rfl, x2, keepT e1.tups p0, fun p H6 F hE g e6 => ?_⟩
        have fD : D ∉ F := fun z => (g D z).elim (fun y => by cases y) fun y => by rw [hA] at y; cases y
        exact q1 _ _ e6 ⟨p, F, rfl, hE.ext (Ext.write (F := [D]) (e6.keep _ _ hA (by simp)) (fun xs z => by cases z) (by simp)) (fun c hc hd => fD (by rw [← List.mem_singleton.mp hd]; exact hc)), fun c hc => (g c hc).elim (fun y => by cases y) fun y => e1.free y (by simp), fD⟩
      · obtain ⟨p, F, rfl, hE0, nF, dF⟩ := hP
        repeat wtm_at "k"
        refine ⟨_, h1, xs1, gs1, _, rfl, x3, keepT e1.tups p1, fun p' H6 F' hE g e6 => ?_⟩
        have fD : D ∉ F' := fun z => (g D z).elim (fun y => by cases y) fun y => by rw [hA] at y; cases y
        have wr : Ext [D] H6 (upd H6 D (.lst ([V.ref p] ++ [V.ref p']))) := Ext.write (e6.keep _ _ hA (by simp)) (fun xs z => by cases z) (by simp)
        refine q1 _ _ e6 ⟨p, F, p', F', rfl, (hE0.ext e6 (fun _ _ z => by cases z)).ext wr (fun c hc hd => dF (by rw [← List.mem_singleton.mp hd]; exact hc)), hE.ext wr (fun c hc hd => fD (by rw [← List.mem_singleton.mp hd]; exact hc)), nF,
          fun c hc => (g c hc).elim (fun y => by cases y) fun y => e1.free y (by simp), fun c hc hd => (g c hd).elim (fun y => by cases y) fun y => hE0.live c hc y, dF, fD⟩
    obtain ⟨p, F0, p', F1, rfl, hE0, hE1, nF0, nF1, ap01, dF0, dF1⟩ := hP
    have hppa := hpp.at'
    have old : Live Hi [pp, lr, b0, b1, ls, lg] := by wtm_at "lv"
    have sls := ej.keep _ _ hls (by simp)
    have slh := ej.keep _ _ glh (by simp)
    have sh0 := ej.keep _ _ hh0 (by simp)
    have sh1 := ej.keep _ _ hh1 (by simp)
    have sb0 : Hj b0 = some (.lst xs0) := by wtm_at "hf"
    have sb1 : Hj b1 = some (.lst xs1) := by wtm_at "hf"
    have slg : Hj lg = some (.lst [.ref b0, .ref b1]) := by wtm_at "hf"
    have slr : Hj lr = some (.lst yr) := by wtm_at "hf"
    have spp : Hj pp = some (.lst (ts.map V.str)) := by wtm_at "hf"
    have sp0 := keepT ej.tups p0
    have sp1 := keepT ej.tups p1
    have spr : Paired (IsR Hj) yr rs := keepT (fun a xs h => by wtm_at "hf") pr
    have nh01 : h0 ≠ h1 := by wtm_at "ne"
    have nlh : lh ≠ h0 ∧ lh ≠ h1 := ⟨by wtm_at "ne", by wtm_at "ne"⟩
    have npp : pp ≠ h0 ∧ pp ≠ h1 := ⟨by wtm_at "ne", by wtm_at "ne"⟩
    have nlr : lr ≠ h0 ∧ lr ≠ h1 := ⟨by wtm_at "ne", by wtm_at "ne"⟩
    have nb0 : b0 ≠ h0 ∧ b0 ≠ h1 := ⟨by wtm_at "ne", by wtm_at "ne"⟩
    have nb1 : b1 ≠ h0 ∧ b1 ≠ h1 := ⟨by wtm_at "ne", by wtm_at "ne"⟩
    have nls : ls ≠ h0 ∧ ls ≠ h1 := ⟨by wtm_at "ne", by wtm_at "ne"⟩
    have nlg : lg ≠ h0 ∧ lg ≠ h1 := ⟨by wtm_at "ne", by wtm_at "ne"⟩
    have nle : le ≠ h0 ∧ le ≠ h1 := ⟨by wtm_at "ne", by wtm_at "ne"⟩
    have hh : Live Hi [h0, h1] := by wtm_at "lv"
    obtain ⟨nlh0, nlh1⟩ := nlh
    have xj : Ext [] H Hj := ri.ext.trans ej
    have xHi : Ext [] H Hi := ri.ext
    have nlrH : H lr = none := ea.free flr (by simp)
    have nb0H : H b0 = none := rc.ext.free fb0 (by simp)
    have nb1H : H b1 = none := (rc.ext.trans ed).free fb1 (by simp)
    clear ri rf rg rh rc re rb ra R0 sf sg sh si sc glh hls hh0 hh1 glg gh0 gh1 hlr hb0 hb1 eb ea ed ee
    have Rj : Run [h0, h1] Hj Hj := Run.start (by wtm_at "lv")
    repeat wtm_at "k"
    refine l_neLL fS_plain (l1 := xs0) (l2 := xs1) (l3 := xs0) (l4 := xs1) (SqL.of (by wtm_at "hf")) (SqL.of (by wtm_at "hf")) (SqL.of (by wtm_at "hf")) (SqL.of (by wtm_at "hf")) (SqL.of (by wtm_at "hf")) (SqL.of (by wtm_at "hf")) (keepT (fun a xs h => by wtm_at "hf") sp0) (keepT (fun a xs h => by wtm_at "hf") sp1) (keepT (fun a xs h => by wtm_at "hf") sp0) (keepT (fun a xs h => by wtm_at "hf") sp1) ?_
    repeat wtm_at "k"
    rename_i t0 Ha1 ta1 ta2 ta3 ra1 ga1 sa1 t1 Ha2 tb1 tb2 tb3 ra2 ga2 sa2 lt Ha3 tc1 tc2 tc3 ra3 ga3 sa3 k0 Ha4 td1 td2 td3 ra4 ga4 sa4 c0 Ha5 te1 te2 te3 ra5 ga5 sa5 Ha6 ra6 ga6 na6 k1 Ha7 tf1 tf2 tf3 ra7 ga7 sa7 cc1 Ha8 tg1 tg2 tg3 ra8 ga8 sa8 Ha9 ra9 ga9 na9 lk Hb0 th1 th2 th3 rb0 gb0 sb0' Hb1 rb1 gb1 nb1' Hb2 rb2 gb2 nb2'
    have xz : Ext [h0, h1] Hj Hb2 := rb2.ext
    have nH : ∀ c, Hj c = none → Hi c = none := fun c z => ej.free z (by simp)
    have fz : ∀ c o, Hi c = some o → Hj c = some o := fun c o h => ej.keep c o h (by simp)
    have F0l := hE0.live
    have F1l := hE1.live
    have hF0 : Apart F0 [h0, h1] := fun c hc hd => hh c hd (nF0 c hc)
    have hF1 : Apart F1 [h0, h1] := fun c hc hd => hh c hd (nF1 c hc)
    have e0 := hE0.ext xz hF0
    have e1 := hE1.ext xz hF1
    have nT0 : ∀ c ∈ [t0, k0, c0], Hj c = none := by
      intro c hc; simp only [List.mem_cons, List.not_mem_nil, or_false] at hc; rcases hc with rfl | rfl | rfl <;> assumption
    have nT1 : ∀ c ∈ [t1, k1, cc1], Hj c = none := by
      intro c hc; simp only [List.mem_cons, List.not_mem_nil, or_false] at hc; rcases hc with rfl | rfl | rfl <;> assumption
    have hz : ∀ c, Hj c = none → c ≠ h0 ∧ c ≠ h1 := fun c z => ⟨fun y => (by rw [y, sh0] at z; cases z), fun y => (by rw [y, sh1] at z; cases z)⟩
    have dT : Apart [t0, k0, c0] [t1, k1, cc1] := by
      intro c hc hd; simp only [List.mem_cons, List.not_mem_nil, or_false] at hc hd
      rcases hc with rfl | rfl | rfl <;> rcases hd with h | h | h <;> exact (show _ ≠ _ by wtm_at "ne") h
    have dS0 : Apart [lt, lk] [t0, k0, c0] := by
      intro c hc hd; simp only [List.mem_cons, List.not_mem_nil, or_false] at hc hd
      rcases hc with rfl | rfl <;> rcases hd with h | h | h <;> exact (show _ ≠ _ by wtm_at "ne") h
    have dS1 : Apart [lt, lk] [t1, k1, cc1] := by
      intro c hc hd; simp only [List.mem_cons, List.not_mem_nil, or_false] at hc hd
      rcases hc with rfl | rfl <;> rcases hd with h | h | h <;> exact (show _ ≠ _ by wtm_at "ne") h
    have lej : Live Hj [le] := Live.cons hD Live.nil
    have lHi : ∀ c, Hi c = none → ∀ G : List Addr, (∀ x ∈ G, Hi x ≠ none) → c ∉ G := fun c z G h m => h c m z
    have aS : ∀ (Fx Tx : List Addr), (∀ c ∈ Fx, Hi c = none) → Live Hj Fx → (∀ c ∈ Tx, Hj c = none) → le ∉ Fx → Apart [lt, lk] Tx → Apart [pp, lr, b0, b1, ls, lg, le, lt, lk] (Fx ++ Tx) := by
      intro Fx Tx nF lF nT dF dT c hc hd
      rw [show [pp, lr, b0, b1, ls, lg, le, lt, lk] = [pp, lr, b0, b1, ls, lg] ++ ([le] ++ [lt, lk]) from rfl] at hc
      rcases List.mem_append.mp hc with hc | hc
      · rcases List.mem_append.mp hd with hd | hd
        · exact old c hc (nF c hd)
        · exact old c hc (nH c (nT c hd))
      · rcases List.mem_append.mp hc with hc | hc
        · rw [List.mem_singleton.mp hc] at hd
          rcases List.mem_append.mp hd with hd | hd
          · exact dF hd
          · exact lej le (by simp) (nT le hd)
        · rcases List.mem_append.mp hd with hd | hd
          · refine lF c hd ?_
            simp only [List.mem_cons, List.not_mem_nil, or_false] at hc
            rcases hc with rfl | rfl <;> assumption
          · exact dT c hc hd
    have a20 := aS F0 [t0, k0, c0] nF0 F0l nT0 dF0 dS0
    have a21 := aS F1 [t1, k1, cc1] nF1 F1l nT1 dF1 dS1
    have a01 : Apart (F0 ++ [t0, k0, c0]) (F1 ++ [t1, k1, cc1]) := by
      intro c h1 h2
      rcases List.mem_append.mp h1 with h1 | h1 <;> rcases List.mem_append.mp h2 with h2 | h2
      · exact ap01 c h1 h2
      · exact F0l c h1 (nT1 c h2)
      · exact F1l c h2 (nT0 c h1)
      · exact dT c h1 h2
    have q0 : EarP K p t0 k0 1 gs0 ts 0 Hb2 (F0 ++ [t0, k0, c0]) := ⟨F0, _, c0, [], rfl, e0, fun c h1 h2 => F0l c h1 (nT0 c h2), by wtm_at "hf", .nil, by wtm_at "hf", by wtm_at "hf", by wtm_at "ne", rfl, rfl, Nat.le_refl _, fun _ z => by cases z⟩
    have q1 : EarP K p' t1 k1 (1 + cellD ns 2 / 3 % 90) gs1 ts 0 Hb2 (F1 ++ [t1, k1, cc1]) := ⟨F1, _, cc1, [], rfl, e1, fun c h1 h2 => F1l c h1 (nT1 c h2), by wtm_at "hf", .nil, by wtm_at "hf", by wtm_at "hf", by wtm_at "ne", rfl, rfl, Nat.le_refl _, fun _ z => by cases z⟩
    have q2 : (statT pp lr ls lg le lt lk (fun b => cond b b1 b0) (fun b => cond b p' p) (fun b => cond b t1 t0) (fun b => cond b k1 k0) ts rs (fun b => cond b (1 + cellD ns 2 / 3 % 90) 1) (fun b => cond b gs1 gs0)).At Hb2 [pp, lr, b0, b1, ls, lg, le, lt, lk] := by
      refine ⟨rfl, ⟨?_, hpp.len, hpp.tx⟩, ⟨yr, ?_, keepT xz.tups spr⟩, fun b => ?_, ?_, ?_, ?_, ?_, ?_⟩
      · exact xz.keep _ _ spp (by simp [npp])
      · exact xz.keep _ _ slr (by simp [nlr])
      · cases b
        · exact ⟨xs0, xz.keep _ _ sb0 (by simp [nb0]), keepT xz.tups sp0⟩
        · exact ⟨xs1, xz.keep _ _ sb1 (by simp [nb1]), keepT xz.tups sp1⟩
      · exact xz.keep _ _ sls (by simp [nls])
      · exact xz.keep _ _ slg (by simp [nlg])
      · exact xz.keep _ _ hD (by simp [nle])
      · wtm_at "hf"
      · wtm_at "hf"
    generalize hX : statT pp lr ls lg le lt lk (fun b => cond b b1 b0) (fun b => cond b p' p) (fun b => cond b t1 t0) (fun b => cond b k1 k0) ts rs (fun b => cond b (1 + cellD ns 2 / 3 % 90) 1) (fun b => cond b gs1 gs0) = X at q2
    have S : Wd H Hb2 (fun | none => [pp, lr, b0, b1, ls, lg, le, lt, lk] | some false => F0 ++ [t0, k0, c0] | some true => F1 ++ [t1, k1, cc1]) (Rk K X (fun b => cond b p' p) (fun b => cond b t1 t0) (fun b => cond b k1 k0) ts (fun b => cond b (1 + cellD ns 2 / 3 % 90) 1) (fun b => cond b gs1 gs0) 0) := by
      have rr : ∀ i, (Rk K X (fun b => cond b p' p) (fun b => cond b t1 t0) (fun b => cond b k1 k0) ts (fun b => cond b (1 + cellD ns 2 / 3 % 90) 1) (fun b => cond b gs1 gs0) 0 i).At Hb2 ((fun | none => [pp, lr, b0, b1, ls, lg, le, lt, lk] | some false => F0 ++ [t0, k0, c0] | some true => F1 ++ [t1, k1, cc1] : Option Bool → List Addr) i) := by
        intro i
        match i with
        | none => exact q2
        | some false => exact q0
        | some true => exact q1
      have xi : Ext [] H Hb2 := xj.then xz fun c hc => .inr (by
        simp only [List.mem_cons, List.not_mem_nil, or_false] at hc
        rcases hc with rfl | rfl <;> assumption)
      refine ⟨⟨?_, fun i => Thing.live _ (rr i), xi, ?_⟩, rr⟩
      · intro i j h
        match i, j with
        | none, some false => exact a20
        | none, some true => exact a21
        | some false, none => exact a20.symm
        | some true, none => exact a21.symm
        | some false, some true => exact a01
        | some true, some false => exact a01.symm
        | none, none => exact absurd rfl h
        | some false, some false => exact absurd rfl h
        | some true, some true => exact absurd rfl h
      · have fr : ∀ c, Hj c = none → H c = none := fun c z => xj.free z (by simp)
        have fr2 : ∀ c, Hi c = none → H c = none := fun c z => xHi.free z (by simp)
        intro i
        match i with
        | none =>
          intro c h
          simp only [List.mem_cons, List.not_mem_nil, or_false] at h
          rcases h with rfl | rfl | rfl | rfl | rfl | rfl | rfl | rfl | rfl
          · assumption
          · assumption
          · assumption
          · assumption
          · assumption
          · assumption
          · exact fr2 _ nD
          · exact fr _ (by assumption)
          · exact fr _ (by assumption)
        | some false => exact fun c h => (List.mem_append.mp h).elim (fun z => fr2 c (nF0 c z)) fun z => fr c (nT0 c z)
        | some true => exact fun c h => (List.mem_append.mp h).elim (fun z => fr2 c (nF1 c z)) fun z => fr c (nT1 c z)
    have h0 : Tn K H a pp lr ls lg lh le lt lk X (fun b => cond b p' p) (fun b => cond b t1 t0) (fun b => cond b k1 k0) ts (fun b => cond b (1 + cellD ns 2 / 3 % 90) 1) (fun b => cond b gs1 gs0) (1000 * 0) [some (.ref a), some (.ref pp), some (.ref lr), some (.ref ls), some (.ref lg), some (.ref lh), some (.ref le), some (.ref lt), some (.ref lk), none, none, none, none, none, none] Hb2 :=
      ⟨_, _, _, _, _, _, _, rfl, S⟩
    have zgs : ∀ b, (∀ q ∈ (cond b gs1 gs0 : List SS), q.k ∈ ts) ∧ (cond b gs1 gs0 : List SS).length ≤ 5 := fun b => by cases b <;> exact ⟨by assumption, by assumption⟩
    have sS := S.sep.ex.seqL (by simp) hS
    clear S q0 q1 q2 a01 a20 a21 aS
    generalize hbb : (fun b => cond b b1 b0 : Bool → Addr) = bb at hX
    generalize hpE : (fun b => cond b p' p : Bool → Addr) = pE at h0 hX
    generalize htt : (fun b => cond b t1 t0 : Bool → Addr) = tt at h0 hX
    generalize hkk : (fun b => cond b k1 k0 : Bool → Addr) = kk at h0 hX
    generalize hst : (fun b => cond b (1 + cellD ns 2 / 3 % 90) 1 : Bool → Int) = st at h0 hX
    generalize hgs : (fun b => cond b gs1 gs0 : Bool → List SS) = gs at h0 hX
    have zgs : ∀ b, (∀ q ∈ gs b, q.k ∈ ts) ∧ (gs b).length ≤ 5 := fun b => by rw [← hgs]; exact zgs b
    subst hX
    repeat wtm_at "k"
    have el : ((ns.map V.int).length : Int) = ns.length := by rw [List.length_map]
    refine l_rng2 ⟨by omega, by omega, by omega, by omega⟩ (l_rng (fun i => Tn K H a pp lr ls lg lh le lt lk _ pE tt kk ts st gs (1000 * i)) h0 (fun i σ' H1 hi q => ?_) fun σ' H1 q => ?_)
    · obtain ⟨v9, v10, v11, v12, v13, v14, F, rfl, S⟩ := q
      have hS1 : SqL K H1 a (ns.map V.int) := S.sep.ex.seqL (by simp) hS
      have R1 : Run [] H1 H1 := Run.start Live.nil
      obtain ⟨eF, hpp1, ⟨yr1, hlr1, pr1⟩, hbb1, hls1, hlg1, hle1, hlt1, hlk1⟩ := S.r none
      obtain ⟨cell, ec⟩ := ixI (xs := ns) (n := 3 + (i : Int)) (by omega) (by omega)
      have lyr : (yr1.length : Int) ≤ 200 := by rw [Paired.length pr1]; omega
      generalize hb : decide (cell % 2 = 1) = b
      have i1 : atI [V.ref (pE false), V.ref (pE true)] (cell % 2) = some (V.ref (pE b)) := by rw [ix2 (f := fun b => V.ref (pE b)), hb]
      have i2 : atI [V.ref (tt false), V.ref (tt true)] (cell % 2) = some (V.ref (tt b)) := by rw [ix2 (f := fun b => V.ref (tt b)), hb]
      have i3 : atI [V.int (st false), V.int (st true)] (cell % 2) = some (V.int (st b)) := by rw [ix2 (f := fun b => V.int (st b)), hb]
      have i4 : atI [V.ref (kk false), V.ref (kk true)] (cell % 2) = some (V.ref (kk b)) := by rw [ix2 (f := fun b => V.ref (kk b)), hb]
      have i5 : atI [V.ref (bb false), V.ref (bb true)] (cell % 2) = some (V.ref (bb b)) := by rw [ix2 (f := fun b => V.ref (bb b)), hb]
      repeat wtm_at "k"
      rename_i bt H2 u1 u2 u3 r2 g2 s2
      generalize cell / 2 / ((yr1.length : Int) + 1) = more at *
      generalize cell / 2 % ((yr1.length : Int) + 1) = low at *
      obtain ⟨ca, cb, pcut⟩ := cutT (lo := some low) (hi := some (low + more % 9)) (keepT r2.ext.tups pr1)
      have sub : ∀ (ca cb : Nat), ∀ r ∈ (rs.drop ca).take cb, r.k ∈ ts := fun ca cb r hr => kr r (List.mem_of_mem_drop (List.mem_of_mem_take hr))
      have slen : ∀ (ca cb : Nat), ((rs.drop ca).take cb).length ≤ 200 := fun ca cb => by rw [List.length_take, List.length_drop]; omega
      refine k_fork (fun σ' H' => ∃ bt zs rs2, σ' = [some (.ref a), some (.ref pp), some (.ref lr), some (.ref ls), some (.ref lg), some (.ref lh), some (.ref le), some (.ref lt), some (.ref lk), some (.int (3 + (i : Int))), some (.int (cell % 2)), some (.int low), some (.int more), some (.ref bt), v14] ∧ Run [] H1 H' ∧ H1 bt = none ∧ H' bt = some (.lst zs) ∧ Paired (IsR H') zs rs2 ∧ rs2.length ≤ 200 ∧ ∀ r ∈ rs2, r.k ∈ ts) (fun nx' ky => ?_) ?_
      · refine k_ifd (fun c1 => ?_) fun c1 => ?_
        · repeat wtm_at "k"
          rename_i bt2 H3 w1 w2 w3 r3 g3 s3
          exact ky _ _ ⟨bt2, _, _, rfl, r3, w1, g3, revT (keepT (fun a xs h => by wtm_at "hf") pcut), by rw [List.length_reverse]; exact slen _ _, fun r hr => sub _ _ r (List.mem_reverse.mp hr)⟩
        · repeat wtm_at "k"
          exact ky _ _ ⟨bt, _, _, rfl, r2, u1, g2, pcut, slen _ _, sub _ _⟩
      rintro _ H3 ⟨bt3, zs, rs2, rfl, r3, n3, g3, p3, z3, k3⟩
      clear g2 s2 u1 u2 u3 r2 pcut
      repeat wtm_at "k"
      refine k_fork (fun σ' H' => ∃ bt zs rs2, σ' = [some (.ref a), some (.ref pp), some (.ref lr), some (.ref ls), some (.ref lg), some (.ref lh), some (.ref le), some (.ref lt), some (.ref lk), some (.int (3 + (i : Int))), some (.int (cell % 2)), some (.int low), some (.int more), some (.ref bt), v14] ∧ Run [] H1 H' ∧ H1 bt = none ∧ H' bt = some (.lst zs) ∧ Paired (IsR H') zs rs2 ∧ rs2.length ≤ 400 ∧ ∀ r ∈ rs2, r.k ∈ ts) (fun nx' ky => ?_) ?_
      · refine k_ifd (fun c1 => ?_) fun c1 => ?_
        · have hlr3 : H3 lr = some (.lst yr1) := r3.ext.keep _ _ hlr1 (by simp)
          have pr3 := keepT r3.ext.tups pr1
          obtain ⟨cc, cd, pc2⟩ := cutT (lo := none) (hi := some (more / 27 % 4)) pr3
          have lz := Paired.length p3
          have lc := Paired.length pc2
          have lc2 := slen cc cd
          repeat wtm_at "k"
          refine l_cat (by wtm_at "hf") (by wtm_at "hf") (by omega) ?_
          repeat wtm_at "k"
          rename_i bt4 H4 x1 x2 x3 r4 g4 s4 bt5 H5 y1 y2 y3 r5 g5 s5
          refine ky _ _ ⟨bt5, _, _, rfl, r5, y1, g5, appT (keepT (fun a xs h => by wtm_at "hf") p3) (keepT (fun a xs h => by wtm_at "hf") pc2), by rw [List.length_append]; omega, fun r hr => ?_⟩
          rcases List.mem_append.mp hr with hr | hr
          · exact k3 r hr
          · exact sub _ _ r hr
        · repeat wtm_at "k"
          exact ky _ _ ⟨bt3, _, _, rfl, r3, n3, g3, p3, by omega, k3⟩
      rintro _ H4 ⟨bt4, zs4, rs4, rfl, r4, n4, g4, p4, z4, k4⟩
      clear g3 p3 r3 n3 R1
      have S4 := S.same r4.ext
      obtain ⟨eF, hpp1, ⟨yr1, hlr1, pr1⟩, hbb1, hls1, hlg1, hle1, hlt1, hlk1⟩ := S4.r none
      have S4a : SqL K H4 a (ns.map V.int) := S4.sep.ex.seqL (by simp) hS
      repeat wtm_at "k"
      refine ⟨_, _, _, bt4, _, _, gs b, ts, _, zs4, rs4, rfl, S4.r (some b), g4, p4, by omega, k4, fun z => S.sep.lv (some b) _ z n4, by omega, fun H5 G5 h5 g5 x5 => ?_⟩
      have S5 := ear_bump (N' := 1000 * (i + 1)) S4 h5 g5 x5 (by omega) (by omega)
      generalize at_ F (some b) G5 = F5 at S5
      clear S4 S hpp1 hlr1 pr1 hbb1 hls1 hlg1 hle1 hlt1 hlk1 eF h5 g5 x5 g4 p4 r4 n4
      obtain ⟨eF, hpp1, ⟨yr1, hlr1, pr1⟩, hbb1, hls1, hlg1, hle1, hlt1, hlk1⟩ := S5.r none
      obtain ⟨Fe, E1, c1, xs, e1, hE, ap, h1, h2, h3, h4, tac, eg, eb, zE, kE⟩ := S5.r (some b)
      have S5a : SqL K H5 a (ns.map V.int) := S5.sep.ex.seqL (by simp) hS
      obtain ⟨xg, hxg, pxg⟩ := hbb1 b
      have st6 := st_len (zgs b).1 kE
      rw [hpp1.len] at st6
      have zl := (zgs b).2
      repeat wtm_at "k"
      refine ⟨_, _, xg, xs, gs b, E1.rows, rfl, hxg, h1, pxg, h2, by omega, by omega, fun l6 H6 ys6 n6 x6 g6 p6 => ?_⟩
      have R6 : Run [] H5 H6 := (Run.start Live.nil).same x6
      have S6a := x6.seqL (by simp) S5a
      obtain ⟨pb, pr, dx, bs, yl, eF', e1', e2', e3', e4', e5', en'⟩ := id hE
      repeat wtm_at "k"
      refine k_ifd (fun cc => ?_) fun cc => ?_
      · repeat wtm_at "k"
        refine ⟨_, Fe, E1, rfl, hE.ext x6 (fun _ _ z => by cases z), by rw [eg]; omega, by rw [eg]; omega, fun l7 H7 ys7 n7 x7 g7 p7 => ?_⟩
        rw [eg] at p7
        repeat wtm_at "k"
        have n67 : l7 ≠ l6 := (ne_of_none g6 n7).symm
        refine ⟨l7, l6, ys7, ys6, _, rfl, g7, SqL.of (x7.keep _ _ g6 (by simp)), p7, keepT x7.tups p6, fun H8 x8 g8 => ?_⟩
        repeat wtm_at "k"
        have x58 : Ext [] H5 H8 := (x6.trans x7).then x8 fun c hc => .inr (x6.free (by rw [List.mem_singleton.mp hc]; exact n7) (by simp))
        exact ⟨_, _, _, _, _, _, _, rfl, S5.same x58⟩
      · repeat wtm_at "k"
        exact ⟨_, _, _, _, _, _, _, rfl, S5.same x6⟩
    · obtain ⟨v9, v10, v11, v12, v13, v14, F, rfl, S⟩ := q
      have zz : ((ns.map V.int).length : Int) - 3 ≤ 60 := by omega
      repeat wtm_at "k"
      refine l_rng1 (by omega) (l_rng (fun i => Tn K H a pp lr ls lg lh le lt lk _ pE tt kk ts st gs (64000 + 1000 * i)) ⟨_, _, _, _, _, _, _, rfl, S.mono fun i H F h => rk_mono (by omega) h⟩ (fun i σ' H1 hi q => ?_) fun σ' H1 q => ?_)
      · clear S
        obtain ⟨v9, v10, v11, v12, v13, v14, F, rfl, S⟩ := q
        have hi2 : i < 2 := hi
        obtain ⟨eF, hpp1, ⟨yr1, hlr1, pr1⟩, hbb1, hls1, hlg1, hle1, hlt1, hlk1⟩ := S.r none
        generalize hb : decide (i = 1) = b
        have i1 : atI [V.ref (pE false), V.ref (pE true)] (0 + (i : Int)) = some (V.ref (pE b)) := by rw [ixB (f := fun b => V.ref (pE b)) hi2, hb]
        have i2 : atI [V.ref (tt false), V.ref (tt true)] (0 + (i : Int)) = some (V.ref (tt b)) := by rw [ixB (f := fun b => V.ref (tt b)) hi2, hb]
        have i3 : atI [V.int (st false), V.int (st true)] (0 + (i : Int)) = some (V.int (st b)) := by rw [ixB (f := fun b => V.int (st b)) hi2, hb]
        have i4 : atI [V.ref (kk false), V.ref (kk true)] (0 + (i : Int)) = some (V.ref (kk b)) := by rw [ixB (f := fun b => V.ref (kk b)) hi2, hb]
        have i5 : atI [V.ref (bb false), V.ref (bb true)] (0 + (i : Int)) = some (V.ref (bb b)) := by rw [ixB (f := fun b => V.ref (bb b)) hi2, hb]
        repeat wtm_at "k"
        refine ⟨_, _, _, lr, _, _, gs b, ts, _, yr1, rs, rfl, S.r (some b), hlr1, pr1, by omega, kr, fun z => S.sep.ap none (some b) (by simp) lr (by rw [eF]; simp) z, by omega, fun H5 G5 h5 g5 x5 => ?_⟩
        have S5 := ear_bump (N' := 64000 + 1000 * (i + 1)) S h5 g5 x5 (by omega) (by omega)
        generalize at_ F (some b) G5 = F5 at S5
        clear S hpp1 hlr1 pr1 hbb1 hls1 hlg1 hle1 hlt1 hlk1 eF h5 g5 x5
        obtain ⟨eF, hpp1, ⟨yr1, hlr1, pr1⟩, hbb1, hls1, hlg1, hle1, hlt1, hlk1⟩ := S5.r none
        obtain ⟨Fe, E1, c1, xs, e1, hE, ap, h1, h2, h3, h4, tac, eg, eb, zE, kE⟩ := S5.r (some b)
        obtain ⟨xg, hxg, pxg⟩ := hbb1 b
        have st6 := st_len (zgs b).1 kE
        rw [hpp1.len] at st6
        have zl := (zgs b).2
        obtain ⟨pb, pr, dx, bs, yl, eF', e1', e2', e3', e4', e5', en'⟩ := id hE
        repeat wtm_at "k"
        refine ⟨_, Fe, E1, rfl, hE, by rw [eg]; omega, by rw [eg]; omega, fun l7 H7 ys7 n7 x7 g7 p7 => ?_⟩
        rw [eg] at p7
        have R7 : Run [] H5 H7 := (Run.start Live.nil).same x7
        repeat wtm_at "k"
        refine ⟨_, _, xg, xs, gs b, E1.rows, rfl, by wtm_at "hf", by wtm_at "hf", keepT x7.tups pxg, keepT x7.tups h2, by omega, by omega, fun l6 H6 ys6 n6 x6 g6 p6 => ?_⟩
        repeat wtm_at "k"
        refine ⟨l7, l6, ys7, ys6, _, rfl, x6.keep _ _ g7 (by simp), SqL.of g6, keepT x6.tups p7, p6, fun H8 x8 g8 => ?_⟩
        repeat wtm_at "k"
        have x58 : Ext [] H5 H8 := (x7.trans x6).then x8 fun c hc => .inr (by rw [List.mem_singleton.mp hc]; exact n7)
        exact ⟨_, _, _, _, _, _, _, rfl, S5.same x58⟩
      · obtain ⟨v9, v10, v11, v12, v13, v14, F, rfl, S⟩ := q
        repeat wtm_at "k"
        exact k _
end
end LW

set_option maxHeartbeats 0
namespace LW
open PySem PySem.Spec PyProof.Rows L2
def d0 : He.DefD := ⟨("Ear", some "__init__"), "__init__", "Ear.__init__", defArgs s_Ear_init, defBody s_Ear_init, defScope s_Ear_init, [.int 1, .non], []⟩
def d1 : He.DefD := ⟨("Ear", some "hear"), "hear", "Ear.hear", defArgs s_Ear_hear, defBody s_Ear_hear, defScope s_Ear_hear, [], []⟩
def d2 : He.DefD := ⟨("Ear", some "heard"), "heard", "Ear.heard", defArgs s_Ear_heard, defBody s_Ear_heard, defScope s_Ear_heard, [], []⟩
def d3 : He.DefD := ⟨("Ear", some "state"), "state", "Ear.state", defArgs s_Ear_state, defBody s_Ear_state, defScope s_Ear_state, [], []⟩
def d4 : He.DefD := ⟨("_law_whole", none), "_law_whole", "_law_whole", defArgs s_l_whole, defBody s_l_whole, defScope s_l_whole, [], []⟩
def d5 : He.DefD := ⟨("_law_cell_at", none), "_law_cell_at", "_law_cell_at", defArgs s_l_cell_at, defBody s_l_cell_at, defScope s_l_cell_at, [], []⟩
def d6 : He.DefD := ⟨("_law_sign", none), "_law_sign", "_law_sign", defArgs s_l_sign, defBody s_l_sign, defScope s_l_sign, [], []⟩
def d7 : He.DefD := ⟨("_law_text", none), "_law_text", "_law_text", defArgs s_l_text, defBody s_l_text, defScope s_l_text, [], []⟩
def d8 : He.DefD := ⟨("_law_pool", none), "_law_pool", "_law_pool", defArgs s_l_pool, defBody s_l_pool, defScope s_l_pool, [], []⟩
def d9 : He.DefD := ⟨("_law_prefix", none), "_law_prefix", "_law_prefix", defArgs s_l_prefix, defBody s_l_prefix, defScope s_l_prefix, [], []⟩
def d10 : He.DefD := ⟨("_law_change", none), "_law_change", "_law_change", defArgs s_l_change, defBody s_l_change, defScope s_l_change, [], []⟩
def d11 : He.DefD := ⟨("_law_changes", none), "_law_changes", "_law_changes", defArgs s_l_changes, defBody s_l_changes, defScope s_l_changes, [], []⟩
def d12 : He.DefD := ⟨("_law_pairs", none), "_law_pairs", "_law_pairs", defArgs s_l_pairs, defBody s_l_pairs, defScope s_l_pairs, [], []⟩
def d13 : He.DefD := ⟨("_law_rows", none), "_law_rows", "_law_rows", defArgs s_l_rows, defBody s_l_rows, defScope s_l_rows, [], []⟩
def d14 : He.DefD := ⟨("_law_state", none), "_law_state", "_law_state", defArgs s_l_state, defBody s_l_state, defScope s_l_state, [], []⟩
def d15 : He.DefD := ⟨("_law_made", none), "_law_made", "_law_made", defArgs s_l_made, defBody s_l_made, defScope s_l_made, [], []⟩
def d16 : He.DefD := ⟨("_law_begin", none), "_law_begin", "_law_begin", defArgs s_l_begin, defBody s_l_begin, defScope s_l_begin, [], []⟩
def d17 : He.DefD := ⟨("_law_heard", none), "_law_heard", "_law_heard", defArgs s_l_heard, defBody s_l_heard, defScope s_l_heard, [], []⟩
def d18 : He.DefD := ⟨("law", none), "law", "law", defArgs s_law, defBody s_law, defScope s_law, [], []⟩
def fn : List He.DefD := [d0, d1, d2, d3, d4, d5, d6, d7, d8, d9, d10, d11, d12, d13, d14, d15, d16, d17, d18]
def fa : List He.Fa := [.glo "Ear", .glo "_law_whole", .glo "_law_cell_at", .glo "_law_sign", .glo "_law_text", .glo "_law_pool", .glo "_law_prefix", .glo "_law_change", .glo "_law_changes", .glo "_law_pairs", .glo "_law_rows", .glo "_law_state", .glo "_law_made", .glo "_law_begin", .glo "_law_heard", .glo "law", .free "isinstance", .free "len", .free "sorted", .free "range", .free "int", .free "bool", .free "str", .free "list", .free "tuple", .free "ValueError", .free "min", .free "max", .free "abs", .free "zip", .cls "Ear", .mkr "Ear", .noat "Ear" "behind", .noat "Ear" "begun", .noat "Ear" "rows", .meth "Ear" "hear", .meth "Ear" "heard", .meth "Ear" "state"]
def exq (K : PySem.W.Frag) : Bool := exkB ([] : List Str) K
abbrev RW : PySem.W.OpenRow := PySem.W.OpenLaw.row PySem.Challenge.rw_leasewatch_k03_an_ear_hears_once
abbrev hk : PySem.W.Hook := He.hookX 6 fa fn [] [] exq
def ob (s : PySem.W.SharedT) : He.AlX := He.obsX 6 fa fn [] [] exq (HandSHeadRun.getT s)
theorem ob_eq (s : PySem.W.SharedT) : ob s = hk.obs s.abs := He.obsX_eq (HandSHeadRun.getT_eq s)
def loose : List Str := (["Ear", "_law_begin", "_law_cell_at", "_law_change", "_law_changes", "_law_heard", "_law_made", "_law_pairs", "_law_pool", "_law_prefix", "_law_rows", "_law_sign", "_law_state", "_law_text", "_law_whole"] : List Str)
theorem run (w : World) : HandSHeadRun.RunEq RW (PySem.W.view RW.prog [17]) hk ob 3000 loose w := by
  intro os
  kernel_rfl
theorem fx_of {w : World} {K : PySem.W.Frag} {h : Heap} {mg : Str → Option Value} (X : K.In h) (G : h.Ns mainGlobals mg) (c0 : He.SaysX fa fn [] [] exq w h K) : FX K mg := by
  have c := c0.t.d
  exact ⟨
    He.glo_ok X G ((c.fact 0 (f := .glo "Ear") rfl)),
    He.glo_ok X G ((c.fact 1 (f := .glo "_law_whole") rfl)),
    He.glo_ok X G ((c.fact 2 (f := .glo "_law_cell_at") rfl)),
    He.glo_ok X G ((c.fact 3 (f := .glo "_law_sign") rfl)),
    He.glo_ok X G ((c.fact 4 (f := .glo "_law_text") rfl)),
    He.glo_ok X G ((c.fact 5 (f := .glo "_law_pool") rfl)),
    He.glo_ok X G ((c.fact 6 (f := .glo "_law_prefix") rfl)),
    He.glo_ok X G ((c.fact 7 (f := .glo "_law_change") rfl)),
    He.glo_ok X G ((c.fact 8 (f := .glo "_law_changes") rfl)),
    He.glo_ok X G ((c.fact 9 (f := .glo "_law_pairs") rfl)),
    He.glo_ok X G ((c.fact 10 (f := .glo "_law_rows") rfl)),
    He.glo_ok X G ((c.fact 11 (f := .glo "_law_state") rfl)),
    He.glo_ok X G ((c.fact 12 (f := .glo "_law_made") rfl)),
    He.glo_ok X G ((c.fact 13 (f := .glo "_law_begin") rfl)),
    He.glo_ok X G ((c.fact 14 (f := .glo "_law_heard") rfl)),
    He.glo_ok X G ((c.fact 15 (f := .glo "law") rfl)),
    He.free_ok X G ((c.fact 16 (f := .free "isinstance") rfl)),
    He.free_ok X G ((c.fact 17 (f := .free "len") rfl)),
    He.free_ok X G ((c.fact 18 (f := .free "sorted") rfl)),
    He.free_ok X G ((c.fact 19 (f := .free "range") rfl)),
    He.free_ok X G ((c.fact 20 (f := .free "int") rfl)),
    He.free_ok X G ((c.fact 21 (f := .free "bool") rfl)),
    He.free_ok X G ((c.fact 22 (f := .free "str") rfl)),
    He.free_ok X G ((c.fact 23 (f := .free "list") rfl)),
    He.free_ok X G ((c.fact 24 (f := .free "tuple") rfl)),
    He.free_ok X G ((c.fact 25 (f := .free "ValueError") rfl)),
    He.free_ok X G ((c.fact 26 (f := .free "min") rfl)),
    He.free_ok X G ((c.fact 27 (f := .free "max") rfl)),
    He.free_ok X G ((c.fact 28 (f := .free "abs") rfl)),
    He.free_ok X G ((c.fact 29 (f := .free "zip") rfl)),
    He.cls_ok ((c.fact 30 (f := .cls "Ear") rfl)),
    He.mkr_ok ((c.fact 31 (f := .mkr "Ear") rfl)),
    He.noat_ok ((c.fact 32 (f := .noat "Ear" "behind") rfl)),
    He.noat_ok ((c.fact 33 (f := .noat "Ear" "begun") rfl)),
    He.noat_ok ((c.fact 34 (f := .noat "Ear" "rows") rfl)),
    He.meth_ok ((c.fact 35 (f := .meth "Ear" "hear") rfl)),
    He.meth_ok ((c.fact 36 (f := .meth "Ear" "heard") rfl)),
    He.meth_ok ((c.fact 37 (f := .meth "Ear" "state") rfl)),
    fdAt_of (c.def_ 0 (d := d0) rfl),
    fdAt_of (c.def_ 1 (d := d1) rfl),
    fdAt_of (c.def_ 2 (d := d2) rfl),
    fdAt_of (c.def_ 3 (d := d3) rfl),
    fdAt_of (c.def_ 4 (d := d4) rfl),
    fdAt_of (c.def_ 5 (d := d5) rfl),
    fdAt_of (c.def_ 6 (d := d6) rfl),
    fdAt_of (c.def_ 7 (d := d7) rfl),
    fdAt_of (c.def_ 8 (d := d8) rfl),
    fdAt_of (c.def_ 9 (d := d9) rfl),
    fdAt_of (c.def_ 10 (d := d10) rfl),
    fdAt_of (c.def_ 11 (d := d11) rfl),
    fdAt_of (c.def_ 12 (d := d12) rfl),
    fdAt_of (c.def_ 13 (d := d13) rfl),
    fdAt_of (c.def_ 14 (d := d14) rfl),
    fdAt_of (c.def_ 15 (d := d15) rfl),
    fdAt_of (c.def_ 16 (d := d16) rfl),
    fdAt_of (c.def_ 17 (d := d17) rfl),
    fdAt_of (c.def_ 18 (d := d18) rfl)⟩
end LW
open PySem PySem.W PySem.Calls PyProof.Rows
theorem PySem.Challenge.cw_leasewatch_k03_an_ear_hears_once_holds : PySem.Challenge.rw_leasewatch_k03_an_ear_hears_once.Holds := by
  w_on; o_law
  refine HandSHeadRun.head_any (r := OpenLaw.row PySem.Challenge.rw_leasewatch_k03_an_ear_hears_once) (q := view (OpenLaw.row PySem.Challenge.rw_leasewatch_k03_an_ear_hears_once).prog [17]) (H := LW.hk) (ob := LW.ob) (M := 3000) (loose := LW.loose) (d := HandSHeadRun.topDef (OpenLaw.row PySem.Challenge.rw_leasewatch_k03_an_ear_hears_once).prog 17) (kwd := []) LW.ob_eq
    (by kernel_rfl) (fun s => by kernel_rfl) LW.run (by kernel_rfl) (by kernel_rfl) (by kernel_rfl) (by rfl) (by first | assumption | decide +kernel) (by decide +kernel) ⟨rfl, rfl, rfl, rfl, rfl, by decide +kernel⟩ ?hw ?hc
  case hw => w_witness2
  case hc =>
    refine L2.walk_ofE (l := PySem.Challenge.rw_leasewatch_k03_an_ear_hears_once) (n := 63) (k := 5) (x := "_law_script") (CX := L2.CX0) rfl (by decide) (by kernel_rfl) ⟨rfl, by decide, by decide⟩ ?F (fun _ _ _ _ z => z)
    intro w mg fa h Y G hmg0
    obtain ⟨K, KX, c⟩ := Y
    have hmg : mg ("law" : PySem.Str) = some (.ref fa) := by
      have e : (HandSHeadRun.topDef (OpenLaw.row PySem.Challenge.rw_leasewatch_k03_an_ear_hears_once).prog 17).name = ("law" : PySem.Str) := by kernel_rfl
      rw [← e]
      exact hmg0
    have T := LW.fx_of KX G c
    have e := hmg.symm.trans T.g_law
    cases e
    have b := L2.FunD.bindsA (ps := ["_law_script"]) T.F_law fun _ _ _ _ _ _ us hl => match us, hl with | [_], _ => rfl
    exact ⟨K, LW.fdAt K ("law", none), LW.sp_law K, KX, fun s v => b s [v] rfl, fun H a ns hl _ hS => ⟨a, ns, rfl, hl, hS, fun _ => rfl⟩, fun base _ _ => LW.fn_out (LW.ok_law T) fun _ _ _ _ z => z⟩
