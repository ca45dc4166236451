import PyProof.Rows.All
import Wide.All
import OpenK.AllK
import Wide.FinOn
import KE.KStateDown
import HandS.ForMost
import HandS.ForExc
import HandS.More
import HandS.Defaults
import HandS.MakeKw
import HandS.ExcIs
import HandS.ExcCtx
import HandS.HotCalls
import HandS.IsInst
import HandS.SortRule
import HandS.SortInts
import HandS.Deep
import HandS.HeadHook4
import PySem.Challenge.RW_leasewatch_k01_leases_by_themselves
import HandS.Head0
import HandS.Head1
import HandS.Head2
import HandS.HeadEnd
import HandS.HeadHook1
import HandS.HeadHook2
import HandS.HeadHook3
set_option Elab.async false
set_option linter.all false
set_option maxRecDepth 100000
set_option maxHeartbeats 4000000
namespace LW
open PySem PySem.Spec PyProof.Rows L2
abbrev St := L2.St

/-! ### where a def stands, its record -/
abbrev Nm := Str × Option Str
def fd0 : FuncData := PySem.W.fnOf Str.empty Str.empty { posonlyargs := [], args := [], vararg := none, kwonlyargs := [], kw_defaults := [], kwarg := none, defaults := [] } [] { kind := .function, names := [], isGenerator := false, isCoroutine := false } .none .none .none .none none .none .none
def fdAt (K : PySem.W.Frag) (p : Nm) : FuncData := match K.lookup (He.fAd K p) with
  | some ⟨_, _, .func fd, _⟩ => fd
  | _ => fd0
theorem fdAt_of {K : PySem.W.Frag} {p : Nm} {x qual : Str} {params : Arguments} {body : List Stmt} {scope : Scope} {dvs : List V} {kws : List (Str × V)}
    (h : ∃ fd, FunD K x qual params body scope dvs kws (He.fAd K p) fd) : FunD K x qual params body scope dvs kws (He.fAd K p) (fdAt K p) := by
  obtain ⟨fd, F⟩ := h
  obtain ⟨oc, od, dV, kV, doc, pm, an, cdv, ct, osl, e, lk, hcd, hD, hK⟩ := id F.ex
  have q : fdAt K p = fd := by
    unfold fdAt
    rw [lk]
  rw [q]
  exact F

/-! ### calls where what is raised is wished for at the caller's slots -/
section
variable {X : Cx} {CX : CXT} {k n : Nat} {f C : Addr} {fd : FuncData} {ps ks : List Str} {sp : Sp} {E : St → XK} {x m : Str} {p pos apos : Pos} {e o : Expr} {es : List Expr} {kws : List Keyword} {ta : TE} {t tk : TA}
  {g : List Value → List Value → List Value} {gV : List V → List V → List V}
theorem run_g {pins : List (Addr × Obj)} {σ : St} {H : Hp} {s : Shared} {Q : VK} {us ws : List Value} {vs zs : List V} {E : XK} (F : FnOk X.prog X.w X.K X.mg X.base CX k f fd ps sp) (hr : Room k X.A)
    (hb : KBn X.K fd ps n ks g gV) (hx : PassesAt CX X σ E) (I : Inv X pins σ H s) (r : Vals vs us) (rz : Vals zs ws) (l1 : vs.length = n) (l2 : zs.length = ks.length) (h : sp (gV vs zs) H Q E) :
    wpAny (model X.prog X.w) X.A (call (.ref f) us (ks.zip ws)) (EP X pins σ Q) X.xe s := by
  have r2 := hb.rel r rz
  have b := hb.to s us ws I.kIn (r.length.symm.trans l1) (rz.length.symm.trans l2)
  refine wpAny_call (codeAny_mono (F.run X.A X.stack s H _ (g us ws) (gV vs zs) Q E hr I.env0 b r2 h) fun res s' hq => ?_)
  match res, hq with
  | .error e, hq => exact hx pins H s e s' I hq
  | .ok (.ret u), hq => exact I.after hq
/-- o.m(e, .., k = v, ..): n values with the object itself -/
def tMethG (C : Addr) (m : Str) (n j : Nat) (sp : Sp) (gV : List V → List V → List V) (E : St → XK) (ta : TE) (t tk : TA) : TE := fun σ H Q => ta σ H fun x H1 =>
  ∃ a dx fs, x = .ref a ∧ H1 a = some (.ins C dx fs) ∧ fs.lookup m = none ∧ t σ H1 fun vs H2 => tk σ H2 fun zs H3 => (x :: vs).length = n ∧ zs.length = j ∧ sp (gV (x :: vs) zs) H3 Q (E σ)
theorem pe_methG {pl : Sem Bool} (he : PE X o ta) (c : Cls X.K C) (hm : Meth X.K C m f) (F : FnOk X.prog X.w X.K X.mg X.base CX k f fd ps sp) (hr : Room k X.A) (hb : KBn X.K fd ps n ks g gV)
    (hx : ∀ σ, PassesAt CX X σ (E σ)) (ha : PA X (e :: es) t) (hkw : PK X kws tk)
    (hall : (backToKw pos (keywordEach kws X.env)).all (·.1.isSome) = true := by rfl) (hks : (backToKw pos (keywordEach kws X.env)).filterMap (·.1) = ks := by rfl)
    (hst : starEach (e :: es) X.env = (false, eval e X.env) :: starEach es X.env := by rfl)
    (hpl : ((backTo pos (starEach (e :: es) X.env)).any (·.1) || (backToKw pos (keywordEach kws X.env)).any (·.1.isNone)) = false := by rfl)
    (ht : eval (.Call (.Attribute o m apos) (e :: es) kws pos) X.env = (do
      let ov ← eval o X.env
      standAt apos.atName
      let (f, first) ← holding [ov] (getMethod ov m pl)
      callWith pos f first (backTo pos (starEach (e :: es) X.env)) (backToKw pos (keywordEach kws X.env))) := by rfl) :
    PE X (.Call (.Attribute o m apos) (e :: es) kws pos) (tMethG C m n ks.length sp gV E ta t tk) := by
  refine ⟨fun pins s σ H Q I h => ?_⟩
  refine PySem.W.methodCall_KW (pl := pl) (thn (he.run pins s σ H _ I h) fun u s1 hh => ?_) ht
  obtain ⟨y, H1, I1, rx, a, dx, fs, ex, ea, l, q⟩ := hh
  subst ex
  obtain rfl : u = Value.ref a := rx
  refine getmeth_ok I1 ea c hm l ?_
  refine PySem.W.callWith_KW (first := [.ref a]) (h₀ := X.base) I.ok.mod.kin hm.kp hall (thn (ha.run pos pins s1 σ H1 _ I1 q) fun us s2 h2 => ?_) hpl hst
  obtain ⟨vs, H2, I2, r, q2⟩ := h2
  refine thn (hkw.run pos pins s2 σ H2 _ I2 q2) fun ws s3 h3 => ?_
  obtain ⟨zs, H3, I3, rz, l1, l2, q3⟩ := h3
  refine ⟨I3.kIn, ?_⟩
  rw [hks]
  exact run_g (us := .ref a :: us) (vs := .ref a :: vs) F hr hb (hx σ) I3 (.cons rfl r) rz l1 l2 q3
/-- o.m(): no value but the object -/
def tMeth0 (C : Addr) (m : Str) (sp : Sp) (E : St → XK) (ta : TE) : TE := fun σ H Q => ta σ H fun x H1 =>
  ∃ a dx fs, x = .ref a ∧ H1 a = some (.ins C dx fs) ∧ fs.lookup m = none ∧ sp [x] H1 Q (E σ)
theorem pe_meth0S {pl : Sem Bool} (he : PE X o ta) (c : Cls X.K C) (hm : Meth X.K C m f) (F : FnOk X.prog X.w X.K X.mg X.base CX k f fd ps sp) (hr : Room k X.A) (hb : Binds X.K fd ps [])
    (hx : ∀ σ, PassesAt CX X σ (E σ))
    (ht : eval (.Call (.Attribute o m apos) [] [] pos) X.env = (do
      let ov ← eval o X.env
      standAt apos.atName
      let (f, first) ← holding [ov] (getMethod ov m pl)
      callWith pos f first (backTo pos (starEach [] X.env)) (backToKw pos (keywordEach [] X.env))) := by rfl) :
    PE X (.Call (.Attribute o m apos) [] [] pos) (tMeth0 C m sp E ta) := by
  refine ⟨fun pins s σ H Q I h => ?_⟩
  refine PySem.W.methodCall_KW (pl := pl) (thn (he.run pins s σ H _ I h) fun u s1 hh => ?_) ht
  obtain ⟨y, H1, I1, rx, a, dx, fs, ex, ea, l, q⟩ := hh
  subst ex
  obtain rfl : u = Value.ref a := rx
  refine getmeth_ok I1 ea c hm l ?_
  refine PySem.W.callWith_K0 (first := [.ref a]) I1.kIn hm.kp ?_
  exact run_fnS (us := [.ref a]) (vs := [.ref a]) F hr hb (hx σ) I1 (.cons rfl .nil) q
/-- o.m(e, ..): every parameter is given -/
def tMethS (C : Addr) (m : Str) (sp : Sp) (E : St → XK) (ta : TE) (t : TA) : TE := fun σ H Q => ta σ H fun x H1 =>
  ∃ a dx fs, x = .ref a ∧ H1 a = some (.ins C dx fs) ∧ fs.lookup m = none ∧ t σ H1 fun vs H2 => sp (x :: vs) H2 Q (E σ)
theorem pe_methS {pl : Sem Bool} (he : PE X o ta) (c : Cls X.K C) (hm : Meth X.K C m f) (F : FnOk X.prog X.w X.K X.mg X.base CX k f fd ps sp) (hr : Room k X.A) (hb : Binds X.K fd ps [])
    (hx : ∀ σ, PassesAt CX X σ (E σ)) (ha : PA X (e :: es) t)
    (hst : starEach (e :: es) X.env = (false, eval e X.env) :: starEach es X.env := by rfl) (hpl : (backTo pos (starEach es X.env)).any (·.1) = false := by rfl)
    (ht : eval (.Call (.Attribute o m apos) (e :: es) [] pos) X.env = (do
      let ov ← eval o X.env
      standAt apos.atName
      let (f, first) ← holding [ov] (getMethod ov m pl)
      callWith pos f first (backTo pos (starEach (e :: es) X.env)) (backToKw pos (keywordEach [] X.env))) := by rfl) :
    PE X (.Call (.Attribute o m apos) (e :: es) [] pos) (tMethS C m sp E ta t) := by
  refine ⟨fun pins s σ H Q I h => ?_⟩
  refine PySem.W.methodCall_KW (pl := pl) (thn (he.run pins s σ H _ I h) fun u s1 hh => ?_) ht
  obtain ⟨y, H1, I1, rx, a, dx, fs, ex, ea, l, q⟩ := hh
  subst ex
  obtain rfl : u = Value.ref a := rx
  refine getmeth_ok I1 ea c hm l ?_
  refine PySem.W.callWith_K (first := [.ref a]) (h₀ := X.base) I.ok.mod.kin hm.kp (thn (ha.run pos pins s1 σ H1 _ I1 q) fun us s2 h2 => ?_) hst hpl
  obtain ⟨vs, H2, I2, r, q2⟩ := h2
  exact ⟨I2.kIn, run_fnS (us := .ref a :: us) (vs := .ref a :: vs) F hr hb (hx σ) I2 (.cons rfl r) q2⟩
/-- f(): no parameter -/
theorem pe_callS0 (F : FnOk X.prog X.w X.K X.mg X.base CX k f fd ps sp) (hr : Room k X.A) (hg : Gl X x) (hm : X.mg x = some (.ref f)) (hk : PySem.W.keepIn X.K (.ref f) = true) (hb : Binds X.K fd ps [])
    (hx : ∀ σ, PassesAt CX X σ (E σ)) (hdb : (x == ("__debug__" : Str)) = false := by decide) : PE X (.Call (.Name x p) [] [] pos) (tCallS sp E tNil) := by
  refine ⟨fun pins s σ H Q I h => ?_⟩
  refine wpAny_Call_Name_kw (ld_glob I hg hm ?_ hdb)
  exact PySem.W.callWith_K0 I.kIn hk (run_fnS (us := []) F hr hb (hx σ) I .nil h)

/-! ### constructors, what is raised wished for at the caller's slots -/
def LMake (C : Addr) (as : Addr → List V) (sp : Sp) (H : Hp) (Q : VK) (E : XK) : Prop := ∀ x dx, H x = none → H dx = none → dx ≠ x → sp (as x) (upd (upd H dx (.own x)) x (.ins C dx [])) (fun v H2 => v = .non ∧ Q (.ref x) H2) E
theorem run_makeG {pins : List (Addr × Obj)} {σ : St} {H : Hp} {s : Shared} {Q : VK} {us ws : List Value} {vs zs : List V} {E : XK} (M : Mk X.K C f) (F : FnOk X.prog X.w X.K X.mg X.base CX k f fd ps sp) (hr : Room (k + 1) X.A) (hb : KBn X.K fd ps (n + 1) ks g gV)
    (hx : PassesAt CX X σ E) (I : Inv X pins σ H s) (r : Vals vs us) (rz : Vals zs ws) (l1 : vs.length = n) (l2 : zs.length = ks.length)
    (h : LMake C (fun x => gV (.ref x :: vs) zs) sp H Q E) :
    wpAny (model X.prog X.w) X.A (call (.ref C) us (ks.zip ws)) (EP X pins σ Q) X.xe s := by
  have hq := h (s.heap.objs.size + 1) s.heap.objs.size (I.hok.fresh (Nat.le_succ _)) (I.hok.fresh (Nat.le_refl _)) (Nat.ne_of_lt (Nat.lt_succ_self _))
  have I2 := Inv.made (C := C) I
  have r1 : Vals (V.ref (s.heap.objs.size + 1) :: vs) (Value.ref (s.heap.objs.size + 1) :: us) := .cons rfl r
  have r2 := hb.rel r1 rz
  have e1 : (Value.ref (s.heap.objs.size + 1) :: us).length = n + 1 := r1.length.symm.trans (congrArg Nat.succ l1)
  have e2 : ws.length = ks.length := rz.length.symm.trans l2
  refine wpAny_call (make_map (f := f) I.kIn M.makes M.init (beq_iff_eq.mp M.fn) (codeAny_mono (F.run _ X.stack _ _ ⟨Value.ref (s.heap.objs.size + 1) :: us, ks.zip ws⟩ (g (Value.ref (s.heap.objs.size + 1) :: us) ws) _ _ E (hr.make C us (ks.zip ws))
    (I2.env0.make C us (ks.zip ws)) (hb.to _ (Value.ref (s.heap.objs.size + 1) :: us) ws I2.kIn e1 e2) r2 hq) fun r s' hq' => ?_))
  cases r with
  | error e => exact hx pins _ _ e s' I2 hq'
  | ok fl =>
    cases fl with
    | ret u =>
      obtain ⟨v, H', I3, rv, ev, q3⟩ := I2.after hq'
      subst ev
      exact ⟨rv, ⟨V.ref (s.heap.objs.size + 1), H', I3, rfl, q3⟩⟩
    | next => exact False.elim hq'
    | brk => exact False.elim hq'
    | cont => exact False.elim hq'
theorem run_makeS {pins : List (Addr × Obj)} {σ : St} {H : Hp} {s : Shared} {Q : VK} {us : List Value} {vs : List V} {E : XK} (M : Mk X.K C f) (F : FnOk X.prog X.w X.K X.mg X.base CX k f fd ps sp) (hr : Room (k + 1) X.A) (hb : Binds X.K fd ps [])
    (hx : PassesAt CX X σ E) (I : Inv X pins σ H s) (r : Vals vs us) (h : LMake C (fun x => .ref x :: vs) sp H Q E) :
    wpAny (model X.prog X.w) X.A (call (.ref C) us) (EP X pins σ Q) X.xe s := by
  have hq := h (s.heap.objs.size + 1) s.heap.objs.size (I.hok.fresh (Nat.le_succ _)) (I.hok.fresh (Nat.le_refl _)) (Nat.ne_of_lt (Nat.lt_succ_self _))
  have I2 := Inv.made (C := C) I
  have r2 : Vals (V.ref (s.heap.objs.size + 1) :: vs) (Value.ref (s.heap.objs.size + 1) :: us) := .cons rfl r
  have hl : (Value.ref (s.heap.objs.size + 1) :: us ++ []).length = ps.length := by
    have e := r2.length
    rw [F.len _ _ _ _ hq] at e
    rw [List.append_nil]
    exact e.symm
  have b := hb _ (Value.ref (s.heap.objs.size + 1) :: us) I2.kIn hl
  rw [List.append_nil] at b
  refine wpAny_call (make_map (f := f) I.kIn M.makes M.init (beq_iff_eq.mp M.fn) (codeAny_mono (F.run _ X.stack _ _ ⟨Value.ref (s.heap.objs.size + 1) :: us, []⟩ (Value.ref (s.heap.objs.size + 1) :: us) _ _ E (hr.make C us [])
    (I2.env0.make C us []) b r2 hq) fun r s' hq' => ?_))
  cases r with
  | error e => exact hx pins _ _ e s' I2 hq'
  | ok fl =>
    cases fl with
    | ret u =>
      obtain ⟨v, H', I3, rv, ev, q3⟩ := I2.after hq'
      subst ev
      exact ⟨rv, ⟨V.ref (s.heap.objs.size + 1), H', I3, rfl, q3⟩⟩
    | next => exact False.elim hq'
    | brk => exact False.elim hq'
    | cont => exact False.elim hq'
/-- C(e, ..): every parameter is given -/
def tMakeS (C : Addr) (sp : Sp) (E : St → XK) (t : TA) : TE := fun σ H Q => t σ H fun vs H1 => LMake C (fun x => .ref x :: vs) sp H1 Q (E σ)
theorem pe_makeS (M : Mk X.K C f) (F : FnOk X.prog X.w X.K X.mg X.base CX k f fd ps sp) (hr : Room (k + 1) X.A) (hg : Gl X x) (hm : X.mg x = some (.ref C)) (hb : Binds X.K fd ps [])
    (hx : ∀ σ, PassesAt CX X σ (E σ)) (ha : PA X (e :: es) t) (hdb : (x == ("__debug__" : Str)) = false := by decide) (he : starEach (e :: es) X.env = (false, eval e X.env) :: starEach es X.env := by rfl) (hpl : (backTo pos (starEach es X.env)).any (·.1) = false := by rfl) :
    PE X (.Call (.Name x p) (e :: es) [] pos) (tMakeS C sp E t) := by
  refine ⟨fun pins s σ H Q I h => ?_⟩
  refine wpAny_Call_Name_kw (ld_glob I hg hm ?_ hdb)
  refine PySem.W.callWith_K (h₀ := X.base) I.ok.mod.kin M.kp (thn (ha.run pos pins s σ H _ I h) fun us s1 ⟨vs, H1, I1, r, q⟩ => ⟨I1.kIn, ?_⟩) he hpl
  exact run_makeS M F hr hb (hx σ) I1 r q
theorem pe_makeS0 (M : Mk X.K C f) (F : FnOk X.prog X.w X.K X.mg X.base CX k f fd ps sp) (hr : Room (k + 1) X.A) (hg : Gl X x) (hm : X.mg x = some (.ref C)) (hb : Binds X.K fd ps [])
    (hx : ∀ σ, PassesAt CX X σ (E σ)) (hdb : (x == ("__debug__" : Str)) = false := by decide) : PE X (.Call (.Name x p) [] [] pos) (tMakeS C sp E tNil) := by
  refine ⟨fun pins s σ H Q I h => ?_⟩
  refine wpAny_Call_Name_kw (ld_glob I hg hm ?_ hdb)
  exact PySem.W.callWith_K0 I.kIn M.kp (run_makeS (us := []) M F hr hb (hx σ) I .nil h)
/-- C(e, .., k = v, ..) -/
def tMakeG (C : Addr) (n m : Nat) (sp : Sp) (gV : List V → List V → List V) (E : St → XK) (t tk : TA) : TE := fun σ H Q => t σ H fun vs H1 => tk σ H1 fun zs H2 => vs.length = n ∧ zs.length = m ∧ LMake C (fun x => gV (.ref x :: vs) zs) sp H2 Q (E σ)
theorem pe_makeG (M : Mk X.K C f) (F : FnOk X.prog X.w X.K X.mg X.base CX k f fd ps sp) (hr : Room (k + 1) X.A) (hg : Gl X x) (hm : X.mg x = some (.ref C)) (hb : KBn X.K fd ps (n + 1) ks g gV)
    (hx : ∀ σ, PassesAt CX X σ (E σ)) (ha : PA X (e :: es) t) (hkw : PK X kws tk) (hall : (backToKw pos (keywordEach kws X.env)).all (·.1.isSome) = true := by rfl) (hks : (backToKw pos (keywordEach kws X.env)).filterMap (·.1) = ks := by rfl)
    (hdb : (x == ("__debug__" : Str)) = false := by decide) (he : starEach (e :: es) X.env = (false, eval e X.env) :: starEach es X.env := by rfl)
    (hpl : ((backTo pos (starEach (e :: es) X.env)).any (·.1) || (backToKw pos (keywordEach kws X.env)).any (·.1.isNone)) = false := by rfl) :
    PE X (.Call (.Name x p) (e :: es) kws pos) (tMakeG C n ks.length sp gV E t tk) := by
  refine ⟨fun pins s σ H Q I h => ?_⟩
  refine wpAny_Call_Name_kw (ld_glob I hg hm ?_ hdb)
  refine PySem.W.callWith_KW (h₀ := X.base) I.ok.mod.kin M.kp hall (thn (ha.run pos pins s σ H _ I h) fun us s1 ⟨vs, H1, I1, r, q⟩ => ?_) hpl he
  refine thn (hkw.run pos pins s1 σ H1 _ I1 q) fun ws s2 ⟨zs, H2, I2, rz, l1, l2, q2⟩ => ⟨I2.kIn, ?_⟩
  rw [hks]
  exact run_makeG M F hr hb (hx σ) I2 r rz l1 l2 q2
end
end LW

set_option maxHeartbeats 4000000
namespace LW
open PySem PySem.Spec PyProof.Rows L2 L2H HotX
/-! ### a def that is called within an except suite, the caught exception among its arguments -/
/-- sp: the exception's address, class, own dict, then as a promise -/
abbrev SpE := Addr → Value → Option Addr → Sp
structure FnE (P : Program) (w : World) (K : PySem.W.Frag) (mg : Str → Option Value) (base : Heap) (k : Nat) (f : Addr) (fd : FuncData) (ps : List Str) (sp : SpE) : Prop where
  len : ∀ a c d vs H Q E, sp a c d vs H Q E → vs.length = ps.length
  run : ∀ (A : Around) (outer : List Env) (s : Shared) (H : Hp) (args : Args) (us : List Value) (vs : List V) (Q : VK) (E : XK) (q : Addr × Obj) (c : Value) (d : Option Addr), RoomH k A → Hot1 A q → PinOk outer H s q →
    Zc c d q.2 → Env0 P w K mg base A outer s H → BindsTo s fd args (ps.zip us) → Vals vs us → sp q.1 c d vs H Q E → codeAny (model P w) A (.call (.ref f) args) (CR CX0 outer P w H s Q E) s
theorem fnE_of {P : Program} {w : World} {K : PySem.W.Frag} {mg : Str → Option Value} {base : Heap} {k : Nat} {f : Addr} {fd : FuncData} {x qual : Str} {params : Arguments} {body : List Stmt} {scope : Scope} {dvs : List V} {kws : List (Str × V)}
    {N ps : List Str} {sp : SpE} (F : FunD K x qual params body scope dvs kws f fd) (S : FnScope N ps scope) (len : ∀ a c d vs H Q E, sp a c d vs H Q E → vs.length = ps.length)
    (hbody : ∀ (cdv : Value) (A : Around) (outer : List Env) (s : Shared) (H : Hp) (vs : List V) (Q : VK) (E : XK) (q : Addr × Obj) (c : Value) (d : Option Addr), Hot1 A q → Zc c d q.2 →
      RoomH k (A.deeper (envOfC qual scope s.heap.objs.size f cdv)) → sp q.1 c d vs H Q E →
      ∃ t, PSs (cxH CX0 P w K mg base N qual scope f cdv A outer s H E q) body t ∧ t { nx := fun _ H' => Q .non H', rt := Q } (L2.start N vs) H) : FnE P w K mg base (k + 1) f fd ps sp := by
  obtain ⟨oc, od, dV, kV, doc, pm, an, cdv, ct, osl, rfl, lk, hcd, _, _⟩ := F.ex
  constructor
  · exact len
  intro A outer s H args us vs Q E q c d hr hot hpin hz e0 hb r hsp
  have hl := len _ _ _ _ _ _ _ hsp
  have KX : K.In s.heap := e0.mod.kin.keeps fun b o e => (e0.bs b o e).1
  have lim : s.heap.NoLimit := e0.mod.nolimit.keeps fun b o e => (e0.bs b o e).1
  have hkd : ∀ y ∈ ps.zip us, scope.names.lookup y.1 = some .local ∨ (scope.names.lookup y.1 = some .cell ∧ ((cellsFrom (s.heap.objs.size + 1) scope.names []).lookup y.1).isSome = true) := by
    rintro ⟨n, v⟩ hy
    rcases S.par n (List.of_mem_zip hy).1 with z | z
    · exact .inl z
    · exact .inr ⟨z, PySem.W.cellsFrom_some _ _ _ (.inl z)⟩
  refine codeAny_call_function hr.depth (KX _ _ lk) rfl S.co S.gen rfl (PySem.W.codeRec_of KX hcd) (hb _ _ _ _ ?_)
  refine wpAny_newFunctionEnv_cells S.kind hkd fun env he s1 xx => ?_
  subst he
  refine ⟨lim.keeps xx.toInCall.keep, codeAny_func ?_⟩
  obtain ⟨t, ht, hq⟩ := hbody cdv A outer s H vs Q E q c d hot hz (hr.deeper _) hsp
  have I := inv_startH (CX := CX0) (E := E) S hpin e0 hl r xx
  refine wpAny_mono (ht.run [] s1 (L2.start N vs) H _ I hq) (fun fl s' hs => ?_) fun e s' hs => hs
  match fl, hs with
  | .ret u, hs =>
    obtain ⟨v, σ', H', J, rv, z⟩ := hs
    exact ⟨v, H', J.os, J.bare, J.base, J.hok, rv, z⟩
  | .next, hs =>
    obtain ⟨σ', H', J, z⟩ := hs
    exact ⟨V.non, H', J.os, J.bare, J.base, J.hok, (rfl : RelV .non Value.none), z⟩
  | .brk, hs => exact (let ⟨_, _, _, z⟩ := hs; z.elim)
  | .cont, hs => exact (let ⟨_, _, _, z⟩ := hs; z.elim)

/-! ### exceptions of one's own: what isinstance tells of them -/
def exC1 (K : PySem.W.Frag) (D : Addr) : Bool :=
  PySem.W.findIn K (.ref D) "__getattribute__" == some (some (.builtin "BaseException.__getattribute__")) && PySem.W.findIn K (.ref D) "__getattr__" == some none && PySem.W.subIn K (.ref D) (.type "BaseException") == some true && PySem.W.hasDictIn K D &&
  PySem.W.findIn K (.ref D) "__class__" == some (some (.builtin "object.__class__")) && PySem.W.specialIn K (.builtin "object.__class__") "__get__" == some (some (.builtin "getset_descriptor.__get__")) && PySem.W.takesIn K (.builtin "object.__class__") == some true &&
  PySem.W.mroIn K D (.type "object") == some true
def exkB (l : List Str) (K : PySem.W.Frag) : Bool := l.all fun x => exC1 K (He.ga K x) && PySem.W.kitOne K (.ref (He.ga K x)) (.type "ValueError") == some true && l.all fun y => PySem.W.kitOne K (.ref (He.ga K x)) (.ref (He.ga K y)) == some (decide (x = y))
structure ExcK (l : List Str) (K : PySem.W.Frag) : Prop where
  exC : ∀ x ∈ l, ExcC K (He.ga K x)
  kitV : ∀ x ∈ l, PySem.W.kitOne K (.ref (He.ga K x)) (.type "ValueError") = some true
  kit : ∀ x ∈ l, ∀ y ∈ l, PySem.W.kitOne K (.ref (He.ga K x)) (.ref (He.ga K y)) = some (decide (x = y))
theorem exk_of {l : List Str} {K : PySem.W.Frag} (h : exkB l K = true) : ExcK l K := by
  unfold exkB at h
  rw [List.all_eq_true] at h
  refine ⟨fun x m => ?_, fun x m => ?_, fun x m y n => ?_⟩
  all_goals
    have a := h x m
    rw [Bool.and_eq_true, Bool.and_eq_true] at a
    obtain ⟨⟨a, b⟩, c⟩ := a
  · unfold exC1 at a
    simp only [Bool.and_eq_true, beq_iff_eq] at a
    obtain ⟨⟨⟨⟨⟨⟨⟨a1, a2⟩, a3⟩, a4⟩, a5⟩, a6⟩, a7⟩, a8⟩ := a
    exact ⟨a1, a2, a3, a4, a5, a6, a7, a8⟩
  · exact beq_iff_eq.mp b
  · exact beq_iff_eq.mp (List.all_eq_true.mp c y n)
theorem isD {K : PySem.W.Frag} {D : Addr} {x : Str} (h : PySem.W.kitOne K (.ref D) (.ref D) = some (decide (x = x))) : PySem.W.kitOne K (.ref D) (.ref D) = some true := by rw [h, decide_eq_true rfl]
theorem isC {K : PySem.W.Frag} {D C : Addr} {x y : Str} (h : PySem.W.kitOne K (.ref D) (.ref C) = some (decide (x = y))) (n : x ≠ y) : PySem.W.kitOne K (.ref D) (.ref C) = some false := by rw [h, decide_eq_false n]
theorem l_isEt {K : PySem.W.Frag} {D C a : Addr} {b : Bool} {H : Hp} {Q : VK} (h : PySem.W.kitOne K (.ref D) (.ref C) = some b) (q : Q (.bl b) H) : rIsE K D a [.ref a, .ref C] H Q := ⟨_, .ref C, b, rfl, fun _ r => r, h, q⟩
theorem l_isEV {K : PySem.W.Frag} {D a : Addr} {n : String} {b : Bool} {H : Hp} {Q : VK} (h : PySem.W.kitOne K (.ref D) (.type n) = some b) (q : Q (.bl b) H) : rIsE K D a [.ref a, .ty n] H Q := ⟨_, .type n, b, rfl, fun _ r => r, h, q⟩
theorem roomS {X : Cx} {k : Nat} {a : Addr} {pn : List (Addr × Obj)} (r : Room k X.A) : RoomH k (X.suite a pn).A := ⟨r.dp, r.un⟩
theorem hu64H {k : Nat} {A : Around} (r : RoomH k A) : A.units + 64 < cLine := by have := r.un; omega
theorem hu1H {k : Nat} {A : Around} (r : RoomH k A) : A.units + 1 < cLine := by have := r.un; omega
theorem hot_suite {X : Cx} {a : Addr} {oe : Obj} {cls : Value} {d : Option Addr} {pn : List (Addr × Obj)} (hz : L2N.Zn cls d oe) (hf : ∃ vs, oe.data = .fields vs) : Hot1 (X.suite a ((a, oe) :: pn)).A (a, oe) :=
  ⟨rfl, let ⟨vs, e⟩ := hf; ⟨vs, e, hz.2.2 vs e⟩⟩
section
variable {X : Cx} {k : Nat} {f : Addr} {fd : FuncData} {ps : List Str} {sp : SpE} {x : Str} {p pos : Pos} {e : Expr} {es : List Expr} {t : TA}
/-- f(err, ..) in the suite: no exception leaves f -/
def tCallE (sp : SpE) (a : Addr) (c : Value) (d : Option Addr) (t : TA) : TE := fun σ H Q => t σ H fun vs H1 => sp a c d vs H1 Q E0
theorem pe_callE {q : Addr × Obj} {c : Value} {d : Option Addr} (F : FnE X.prog X.w X.K X.mg X.base k f fd ps sp) (hr : RoomH k X.A) (hot : Hot1 X.A q) (hq : q ∈ X.pn) (hz : Zc c d q.2) (hg : Gl X x) (hm : X.mg x = some (.ref f))
    (hk : PySem.W.keepIn X.K (.ref f) = true) (hb : Binds X.K fd ps []) (ha : PA X (e :: es) t) (hdb : (x == ("__debug__" : Str)) = false := by decide) (he : starEach (e :: es) X.env = (false, eval e X.env) :: starEach es X.env := by rfl)
    (hpl : (backTo pos (starEach es X.env)).any (·.1) = false := by rfl) : PE X (.Call (.Name x p) (e :: es) [] pos) (tCallE sp q.1 c d t) := by
  constructor
  intro pins s σ H Q I h
  refine wpAny_Call_Name_kw (ld_glob I hg hm ?_ hdb)
  refine PySem.W.callWith_K (h₀ := X.base) I.ok.mod.kin hk (thn (ha.run pos pins s σ H _ I h) fun us s1 hh => ?_) he hpl
  obtain ⟨vs, H1, I1, r, hs⟩ := hh
  refine ⟨I1.kIn, ?_⟩
  have hl : us.length = ps.length := by rw [← r.length]; exact F.len _ _ _ _ _ _ _ hs
  have b := hb s1 us I1.kIn (by rw [List.append_nil]; exact hl)
  rw [List.append_nil] at b
  have P1 := I1.pin q (List.mem_append_left _ hq)
  have hpin : PinOk X.stack H1 s1 q := ⟨P1.1, P1.2.1, fun hm => (List.mem_cons.mp (I1.stkSub q.1 hm)).elim P1.2.2.1 P1.2.2.2.1, P1.2.2.2.2⟩
  refine wpAny_call (codeAny_mono (F.run X.A X.stack s1 H1 ⟨us, []⟩ us vs Q E0 q c d hr hot hpin hz I1.env0 b r hs) fun res s' hq => ?_)
  match res, hq with
  | .error e, hq => exact hq.elim
  | .ok (.ret u), hq => exact I1.after hq

/-- in the suite of a try -/
theorem pe_callES {a : Addr} {oe : Obj} {cls : Value} {d : Option Addr} {pn : List (Addr × Obj)} (F : FnE X.prog X.w X.K X.mg X.base k f fd ps sp) (hr : Room k X.A) (hz : L2N.Zn cls d oe) (hf : ∃ vs, oe.data = .fields vs) (hg : Gl X x) (hm : X.mg x = some (.ref f))
    (hk : PySem.W.keepIn X.K (.ref f) = true) (hb : Binds X.K fd ps []) (ha : PA (X.suite a ((a, oe) :: pn)) (e :: es) t) (hdb : (x == ("__debug__" : Str)) = false := by decide) (he : starEach (e :: es) (X.suite a ((a, oe) :: pn)).env = (false, eval e (X.suite a ((a, oe) :: pn)).env) :: starEach es (X.suite a ((a, oe) :: pn)).env := by rfl)
    (hpl : (backTo pos (starEach es (X.suite a ((a, oe) :: pn)).env)).any (·.1) = false := by rfl) : PE (X.suite a ((a, oe) :: pn)) (.Call (.Name x p) (e :: es) [] pos) (tCallE sp a cls d t) :=
  pe_callE (X := X.suite a ((a, oe) :: pn)) (q := (a, oe)) (c := cls) (d := d) F (roomS hr) (hot_suite hz hf) List.mem_cons_self hz.zc hg hm hk hb ha hdb he hpl
/-- isinstance(err, C), err the exception that a context bears -/
theorem call_isP {q : Addr × Obj} {D : Addr} (hq : q ∈ X.pn) (C : ExcC X.K D) (hz : Zc (.ref D) none q.2) (hf : ∃ vs, q.2.data = .fields vs) : CallR X (.builtin "isinstance") (rIsE X.K D q.1) := by
  intro pins s σ H xs us Q I r h
  obtain ⟨c, cv, b, rfl, hcv, e, z⟩ := h
  match us, r with
  | [u1, u2], .cons rx (.cons rt .nil) =>
    cases rx
    have ec := hcv _ rt
    subst ec
    have hget := (I.pin q (List.mem_append_left _ hq)).1
    obtain ⟨a, oe⟩ := q
    obtain ⟨vs, hv⟩ := hf
    have J : PySem.W.InstAt s.heap a oe D none := by
      obtain ⟨oc, od, oda, osl⟩ := oe
      obtain ⟨h1, h2⟩ := hz
      dsimp only at h1 h2 hv
      subst h1 h2 hv
      exact ⟨hget, rfl, rfl, trivial⟩
    exact PySem.W.kia_one (PySem.W.handS_kitx_exc C.hg C.hk C.hs C.hd C.ha C.hn C.ht C.hm) I.kIn J e (fun y => nomatch y) fun tk => ⟨.bl b, H, I.kept (t' := tk) fun _ _ y => y, rfl, z⟩
end

/-! ### a for over a list that is left before its end, where an exception is handled -/
structure TurnN (P : Program) (w : World) (K : PySem.W.Frag) (tg : Expr) (J : It) (fp : List Addr) (it : Addr) (tn : Nat → Heap → Prop) : Prop where
  mem : it ∈ fp
  obj : ∀ i h, tn i h → ∀ b ∈ fp, ∃ o, h.get? b = some o ∧ ∀ v, o.data ≠ .cell v
  keep : ∀ i h h', tn i h → (∀ b ∈ fp, ∀ o, h.get? b = some o → h'.get? b = some o) → tn i h'
  item : ∀ (X : Cx), X.prog = P → X.w = w → X.K = K → ∀ (i : Nat) (pins : List (Addr × Obj)) (s : Shared) (σ : St) (H : Hp) (E : Value → Shared → Prop), Inv X pins σ H s → (∀ b ∈ fp, FpOk X pins H b) → tn i s.heap → J.go i H →
    wpAny (model P w) X.A (pyNext (.ref it)) (fun r s1 => ∃ u, r = some u ∧
      wpAny (model P w) X.A (letOwnedTupleGo tg (.ref it) u) (fun _ s2 => ∃ x H', Inv X pins σ H' s2 ∧ RelV x u ∧ J.yld i H x H' ∧ tn (i + 1) s2.heap ∧ ∀ b ∈ fp, H' b = none) E s1) E s
theorem turnN_list {P : Program} {w : World} {K : PySem.W.Frag} {tg : Expr} (a it : Addr) : TurnN P w K tg (Itl K a) [it] it (fun i h => h.IsListIter it a i) where
  mem := List.mem_singleton.mpr rfl
  obj := (turn_list (P := P) (w := w) (K := K) (tg := tg) a it).obj
  keep := (turn_list (P := P) (w := w) (K := K) (tg := tg) a it).keep
  item := by
    rintro X rfl rfl rfl i pins s σ H E I hf st ⟨xs, x, hq, hx⟩
    obtain ⟨its, rv, p, hz⟩ := I.list hq
    obtain ⟨u, hu, ru⟩ := rv.get hx
    obtain ⟨f0, f1, f2, f3, f4, f5⟩ := hf it (List.mem_singleton.mpr rfl)
    refine wpAny_pyNext_list_item st p.isList (x := u) (by simpa using hu) fun h' st' sb => ?_
    have I1 : Inv X pins σ H { s with heap := h' } := I.turned (t' := s.toks) (fun b o hb e => (sb.2 b hb).trans e) f0 f1 f3 f4 f5
    obtain ⟨o, e, c, d⟩ := id st'
    refine ⟨u, rfl, go_of (s := { s with heap := h' }) e c d (by decide) ?_⟩
    exact ⟨x, H, I1, ru, ⟨rfl, fun ys hy => by rw [I.list_inj hy hq]; exact hx⟩, st', fun b hb => (hf b hb).1⟩
def PIEN (X : Cx) (pins : List (Addr × Obj)) (σ : St) (tg : Expr) (R : It → Hp → Prop) (itv : Value) (s2 : Shared) : Prop :=
  ∃ (it : Addr) (fp : List Addr) (tn : Nat → Heap → Prop) (J : It) (H' : Hp), itv = .ref it ∧ Inv X pins σ H' s2 ∧ TurnN X.prog X.w X.K tg J fp it tn ∧ tn 0 s2.heap ∧ (∀ b ∈ fp, FpOk X pins H' b) ∧ R J H'
structure PIN (X : Cx) (tg iter : Expr) (wi : TI) : Prop where
  run : ∀ (pins : List (Addr × Obj)) (s : Shared) (σ : St) (H : Hp) (R : It → Hp → Prop), Inv X pins σ H s → wi σ H R →
    wpAny (model X.prog X.w) X.A (eval iter X.env) (fun v s1 => wpAny (model X.prog X.w) X.A (pyIter v) (PIEN X pins σ tg R) X.xe s1) X.xe s
section
variable {X : Cx} {tg : Expr}
theorem pi_listN {l : Expr} {tl : TE} (hl : PE X l tl) : PIN X tg l (iList X.K tl) := by
  constructor
  intro pins s σ H R I h
  refine thn (hl.run pins s σ H _ I h) fun v s1 hh => ?_
  obtain ⟨x, H1, I1, r1, a, e, ⟨xs, hq⟩, q⟩ := hh
  subst e
  cases r1
  obtain ⟨its, rv, p, hz⟩ := I1.list hq
  refine wpAny_pyIter_list p.isList ?_
  refine ⟨s1.heap.objs.size, [s1.heap.objs.size], _, _, H1, rfl, I1.kept (t' := s1.toks) fun b o e => Heap.get?_push_of_some _ e, turnN_list a _, ⟨_, Heap.get?_push_size _ rfl, rfl, rfl⟩, fun b hb => ?_, q⟩
  obtain rfl : b = s1.heap.objs.size := by simpa using hb
  exact I1.fpOk (Nat.le_refl _) (I1.hok.fresh (Nat.le_refl _))
theorem pi_listNS {l : Expr} {tl : TE} {a : Addr} {pn : List (Addr × Obj)} (hl : PE (X.suite a pn) l tl) : PIN (X.suite a pn) tg l (iList X.K tl) := pi_listN (X := X.suite a pn) hl
/-- the loop never comes to its end -/
def tForN (wi : TI) (g : TG) (tb : TS) : TS := fun D σ H => wi σ H fun J H1 => ∃ W : Nat → Nat → St → Hp → Prop, (∃ m, W 0 m σ H1) ∧ ∀ i m σ H, W i m σ H →
  J.go i H ∧ ∃ N : St → Hp → Prop, (∀ σ' H', N σ' H' → ∃ m', m' < m ∧ W (i + 1) m' σ' H') ∧ ∀ x H', J.yld i H x H' → g x σ H' fun σ2 H2 => tb { D with nx := N, ct := N, bk := D.nx } σ2 H2
theorem ps_forN {iter : Expr} {body : List Stmt} {wi : TI} {g : TG} {tb : TS} {pos : Pos} (hp : PassesOwn (model X.prog X.w) X.A X.env X.xe) (hi : PIN X tg iter wi) (hg : PG X tg g) (hb : PSs X body tb)
    (hs : ∀ x, foldedSetIterable iter X.env x = pure x := by intro _; rfl) : PS X (.For tg iter body [] pos) (tForN wi g tb) := by
  constructor
  intro pins s σ H D I h
  refine wpAny_For (thn (hi.run pins s σ H _ I h) fun v s1 h1 => thn h1 fun itv s2 h2 => ?_) hs
  obtain ⟨it, fp, tn, J, H2, e, I2, T, st2, f2, W, ⟨m0, w0⟩, turn⟩ := h2
  subst e
  have stat : ∀ {H' : Hp}, (∀ b ∈ fp, H' b = none) → ∀ b ∈ fp, FpOk X pins H' b := fun hn b hb => ⟨hn b hb, (f2 b hb).2⟩
  refine codeAny_forLoop_any (fun n s' => ∃ i σ' H', Inv X pins σ' H' s' ∧ tn i s'.heap ∧ (∀ b ∈ fp, H' b = none) ∧ W i n σ' H') ?_ m0 ⟨0, σ, H2, I2, st2, fun b hb => (f2 b hb).1, w0⟩
  rintro n s3 ⟨i, σ3, H3, I3, st3, fr3, w3⟩
  obtain ⟨go, N, hN, step⟩ := turn i n σ3 H3 w3
  refine wpAny_passesOwn hp (thn (T.item X rfl rfl rfl i pins s3 σ3 H3 X.xe I3 (stat fr3) st3 go) fun r s4 h4 => ?_)
  obtain ⟨u, hr, h4⟩ := h4
  subst hr
  refine wpAny_passesOwn hp (thn h4 fun _ s5 h5 => ?_)
  obtain ⟨x, H5, I5, r5, y5, st5, fr5⟩ := h5
  have I5' := I5.pinned (stat fr5) (T.obj _ _ st5)
  refine wpAny_passesOwn hp (thn (hg.run _ s5 σ3 H5 x u _ I5' r5 (step x H5 y5)) fun _ s6 h6 => ?_)
  obtain ⟨σ6, H6, I6, q6⟩ := h6
  refine wpAny_passesOwn hp (thn (hb.run _ s6 σ6 H6 _ I6 q6) fun f s7 q7 => ?_)
  have again : ∀ {σ7 : St} {H7 : Hp}, Inv X (pins ++ pinsAt fp s5.heap) σ7 H7 s7 → N σ7 H7 → ∃ m, m < n ∧ ∃ i σ' H', Inv X pins σ' H' s7 ∧ tn i s7.heap ∧ (∀ b ∈ fp, H' b = none) ∧ W i m σ' H' := by
    intro σ7 H7 I7 n7
    obtain ⟨m', hm, w7⟩ := hN σ7 H7 n7
    refine ⟨m', hm, i + 1, σ7, H7, I7.unpinned, T.keep _ _ _ st5 fun b hb o e => ?_, fun b hb => ?_, w7⟩
    · exact (I7.pin (b, o) (List.mem_append_right _ (List.mem_append_right _ (mem_pinsAt hb e)))).1
    · obtain ⟨o, e, d⟩ := T.obj _ _ st5 b hb
      exact (I7.pin (b, o) (List.mem_append_right _ (List.mem_append_right _ (mem_pinsAt hb e)))).2.1
  match f, q7 with
  | .next, q7 => obtain ⟨σ7, H7, I7, n7⟩ := q7; exact again I7 n7
  | .cont, q7 => obtain ⟨σ7, H7, I7, n7⟩ := q7; exact again I7 n7
  | .brk, q7 => obtain ⟨σ7, H7, I7, q7⟩ := q7; exact ⟨σ7, H7, I7.unpinned, q7⟩
  | .ret v, q7 => obtain ⟨x7, σ7, H7, I7, r7, q7⟩ := q7; exact ⟨x7, σ7, H7, I7.unpinned, r7, q7⟩
/-- over a list that stays; P: what holds ahead of turn i; at turn n the loop is left at the latest -/
theorem forN_list {K : PySem.W.Frag} {a : Addr} {xs : List V} {g : TG} {tb : TS} {D : Ends} {σ : St} {H : Hp} (Pv : Nat → St → Hp → Prop) (h0 : Pv 0 σ H) (hl : ∀ i σ H, Pv i σ H → SqL K H a xs) (hn : ∀ i σ H, Pv i σ H → i < xs.length)
    (hs : ∀ i x σ H, xs[i]? = some x → Pv i σ H → g x σ H fun σ2 H2 => tb { D with nx := Pv (i + 1), ct := Pv (i + 1), bk := D.nx } σ2 H2) :
    ∃ W : Nat → Nat → St → Hp → Prop, (∃ m, W 0 m σ H) ∧ ∀ i m σ H, W i m σ H →
      (Itl K a).go i H ∧ ∃ N : St → Hp → Prop, (∀ σ' H', N σ' H' → ∃ m', m' < m ∧ W (i + 1) m' σ' H') ∧ ∀ x H', (Itl K a).yld i H x H' → g x σ H' fun σ2 H2 => tb { D with nx := N, ct := N, bk := D.nx } σ2 H2 := by
  refine ⟨fun i m σ H => m = xs.length - i ∧ Pv i σ H, ⟨xs.length, by simp, h0⟩, ?_⟩
  rintro i m σ H ⟨rfl, p⟩
  have q := hl i σ H p
  have hlt := hn i σ H p
  refine ⟨⟨xs, xs[i], q, by simp [hlt]⟩, Pv (i + 1), fun σ' H' p' => ⟨xs.length - (i + 1), by omega, rfl, p'⟩, fun x H' y => ?_⟩
  obtain ⟨e, y⟩ := y
  subst e
  exact hs i x σ _ (y xs q) p
end
end LW

set_option maxHeartbeats 4000000
namespace LW
open PySem PySem.Spec PyProof.Rows L2

/-! ### the heap: what is kept but at F (tuples always are) -/
structure Ext (F : List Addr) (H H' : Hp) : Prop where
  keep : ∀ a o, H a = some o → a ∉ F → H' a = some o
  tups : ∀ a xs, H a = some (.tup xs) → H' a = some (.tup xs)
theorem Ext.refl (F : List Addr) (H : Hp) : Ext F H H := ⟨fun _ _ h _ => h, fun _ _ h => h⟩
theorem Ext.trans {F : List Addr} {H H1 H2 : Hp} (a : Ext F H H1) (b : Ext F H1 H2) : Ext F H H2 :=
  ⟨fun c o h n => b.keep c o (a.keep c o h n) n, fun c xs h => b.tups c xs (a.tups c xs h)⟩
theorem Ext.mono {F G : List Addr} {H H' : Hp} (e : Ext F H H') (h : ∀ a ∈ F, a ∈ G ∨ H a = none) : Ext G H H' :=
  ⟨fun a o q n => e.keep a o q fun z => (h a z).elim n fun y => (by rw [y] at q; cases q), e.tups⟩
theorem Ext.sub {F G : List Addr} {H H' : Hp} (e : Ext F H H') (h : ∀ a ∈ F, a ∈ G) : Ext G H H' := e.mono fun a z => .inl (h a z)
/-- one after another, the second's footprint within the first's and what was new -/
theorem Ext.then {F G : List Addr} {H H1 H2 : Hp} (a : Ext F H H1) (b : Ext G H1 H2) (h : ∀ c ∈ G, c ∈ F ∨ H c = none) : Ext F H H2 :=
  ⟨fun c o q n => b.keep c o (a.keep c o q n) fun z => (h c z).elim n fun y => (by rw [y] at q; cases q), fun c xs q => b.tups c xs (a.tups c xs q)⟩
theorem Ext.new {F : List Addr} {H : Hp} {p : Addr} {o : HO} (h : H p = none) : Ext F H (upd H p o) :=
  ⟨fun a u e _ => (by rw [upd_ne (ne_of_none e h)]; exact e), fun a u e => (by rw [upd_ne (ne_of_none e h)]; exact e)⟩
theorem Ext.write {F : List Addr} {H : Hp} {p : Addr} {o u : HO} (h : H p = some u) (m : ∀ xs, u ≠ .tup xs) (hp : p ∈ F) : Ext F H (upd H p o) :=
  ⟨fun a v e n => (by rw [upd_ne (fun z => n (by rw [z]; exact hp))]; exact e), fun a xs e => (by rw [upd_ne (ne_of e h fun z => m xs z.symm)]; exact e)⟩
theorem Ext.free {F : List Addr} {H H' : Hp} {p : Addr} (e : Ext F H H') (h : H' p = none) (n : p ∉ F) : H p = none := by
  cases q : H p with
  | none => rfl
  | some o =>
    rw [e.keep p o q n] at h
    cases h
theorem Ext.same {H H' : Hp} (e : Ext [] H H') : Same H H' := fun a o h => e.keep a o h (by simp)
theorem Same.ext {F : List Addr} {H H' : Hp} (e : Same H H') : Ext F H H' := ⟨fun a o h _ => e a o h, fun a xs h => e a _ h⟩
theorem Ext.seqL {F : List Addr} {K : PySem.W.Frag} {H H' : Hp} {a : Addr} {xs : List V} (e : Ext F H H') (n : a ∉ F) (h : SqL K H a xs) : SqL K H' a xs := by
  rcases h with (h | ⟨o, h⟩) | h
  · exact .inl (.inl (e.keep _ _ h n))
  · exact .inl (.inr ⟨o, e.keep _ _ h n⟩)
  · exact .inr h
theorem Ext.wr {F : List Addr} {H H1 : Hp} {p : Addr} {o u : HO} (e : Ext F H H1) (h : H1 p = some u) (m : ∀ xs, u ≠ .tup xs) (hp : p ∈ F) : Ext F H (upd H1 p o) := e.trans (Ext.write h m hp)
/-- an object that was new is written -/
theorem Ext.wrN {F : List Addr} {H H1 : Hp} {p : Addr} {o u : HO} (e : Ext F H H1) (h : H1 p = some u) (m : ∀ xs, u ≠ .tup xs) (n : H p = none) : Ext F H (upd H1 p o) :=
  ⟨fun a v q z => (by rw [upd_ne (ne_of_none q n)]; exact e.keep a v q z), fun a xs q => (by rw [upd_ne (ne_of_none q n)]; exact e.tups a xs q)⟩
theorem Ext.add {F : List Addr} {H H1 H2 : Hp} (e : Ext F H H1) (a : Ext [] H1 H2) : Ext F H H2 := e.then a (fun _ h => by cases h)
/-- what is owned grows by new addresses alone -/
def Grow (H : Hp) (F F' : List Addr) : Prop := ∀ a ∈ F', a ∈ F ∨ H a = none
theorem Grow.refl (H : Hp) (F : List Addr) : Grow H F F := fun _ h => .inl h
theorem Grow.trans {H H1 : Hp} {F F1 F2 : List Addr} (a : Grow H F F1) (e : Ext F H H1) (b : Grow H1 F1 F2) : Grow H F F2 := fun c h => by
  rcases b c h with z | z
  · exact a c z
  · by_cases q : c ∈ F
    · exact .inl q
    · exact .inr (e.free z q)
def Live (H : Hp) (F : List Addr) : Prop := ∀ a ∈ F, H a ≠ none
def Apart (F G : List Addr) : Prop := ∀ a ∈ F, a ∉ G
theorem Apart.symm {F G : List Addr} (h : Apart F G) : Apart G F := fun a m n => h a n m
theorem Apart.grow {H : Hp} {F F' G : List Addr} (h : Apart F G) (g : Grow H F F') (l : Live H G) : Apart F' G := fun a m n => (g a m).elim (fun z => h a z n) fun z => l a n z
theorem Live.ext {F G : List Addr} {H H' : Hp} (l : Live H G) (e : Ext F H H') (h : Apart G F) : Live H' G := fun a m z => by
  cases q : H a with
  | none => exact l a m q
  | some o =>
    rw [e.keep a o q (h a m)] at z
    cases z

/-- a body under way: H0 its base, F what it may change of it -/
structure Run (F : List Addr) (H0 H : Hp) : Prop where
  ext : Ext F H0 H
  live : Live H F
theorem Run.start {F : List Addr} {H : Hp} (l : Live H F) : Run F H H := ⟨Ext.refl F H, l⟩
theorem Run.wr {F : List Addr} {H0 H : Hp} {a : Addr} {o u : HO} (r : Run F H0 H) (h : H a = some u) (m : ∀ xs, u ≠ .tup xs) (w : a ∈ F ∨ H0 a = none) : Run F H0 (upd H a o) := by
  refine ⟨w.elim (fun z => r.ext.wr h m z) fun z => r.ext.wrN h m z, fun b hb z => ?_⟩
  by_cases e : b = a
  · rw [e, upd_same] at z; cases z
  · rw [upd_ne e] at z; exact r.live b hb z
theorem Run.new {F : List Addr} {H0 H : Hp} {p : Addr} {o : HO} (r : Run F H0 H) (h : H p = none) : Run F H0 (upd H p o) ∧ H0 p = none ∧ p ∉ F := by
  have n : p ∉ F := fun z => r.live p z h
  refine ⟨⟨r.ext.add (Ext.new h), fun b hb z => ?_⟩, r.ext.free h n, n⟩
  have e : b ≠ p := fun y => n (y ▸ hb)
  rw [upd_ne e] at z
  exact r.live b hb z
/-- behind a call with the footprint G -/
theorem Run.call {F G : List Addr} {H0 H H' : Hp} (r : Run F H0 H) (e : Ext G H H') (g : ∀ a ∈ G, a ∈ F ∨ H0 a = none) (l : ∀ a ∈ F, a ∈ G → H' a ≠ none) : Run F H0 H' :=
  ⟨r.ext.then e g, fun a m z => by
    by_cases q : a ∈ G
    · exact l a m q z
    · cases y : H a with
      | none => exact r.live a m y
      | some o => rw [e.keep a o y q] at z; cases z⟩
theorem Run.same {F : List Addr} {H0 H H' : Hp} (r : Run F H0 H) (e : Ext [] H H') : Run F H0 H' := r.call (G := []) e (fun _ h => by cases h) fun _ _ h => by cases h
theorem Live.cons {H : Hp} {a : Addr} {o : HO} {F : List Addr} (h : H a = some o) (l : Live H F) : Live H (a :: F) := fun b m z => by
  rcases List.mem_cons.mp m with e | e
  · rw [e, h] at z; cases z
  · exact l b e z
theorem Live.nil {H : Hp} : Live H [] := fun _ m => by cases m

/-! ### forms of one's own: fields -/
/-- e.f, e an instance of the class at C -/
def tFldC (C : Addr) (f : Str) (ta : TE) : TE := fun σ H Q => ta σ H fun x H1 => ∃ a dx fs v, x = .ref a ∧ H1 a = some (.ins C dx fs) ∧ fs.lookup f = some v ∧ Q v H1
def sFldC (C : Addr) (f : Str) (ta tv : TE) : TS := fun D σ H => tv σ H fun y H1 => ta σ H1 fun x H2 => ∃ a dx fs, x = .ref a ∧ H2 a = some (.ins C dx fs) ∧ fs.length < 1000 ∧ D.nx σ (upd H2 a (.ins C dx (putF f y fs)))
section
variable {X : Cx} {o e value : Expr} {f : Str} {C : Addr} {pos pos' : Pos} {ta tv : TE}
theorem pe_fldC (c : Cls X.K C) (n : NoAttr X.K C f) (he : PE X e ta) (hb : attributeBase e f X.env (eval e X.env) = eval e X.env := by rfl) : PE X (.Attribute e f pos) (tFldC C f ta) := by
  constructor
  intro pins s σ H Q I h
  refine attr_of hb (thn (he.run pins s σ H _ I h) fun u s1 hh => ?_)
  obtain ⟨x, H1, I1, rx, a, dx, fs, v, ex, ea, l, q⟩ := hh
  subst ex
  obtain rfl : u = Value.ref a := rx
  exact getattr_ok I1 ea c n l fun u' s2 I2 ru => ⟨v, H1, I2, ru, q⟩
theorem ps_fldC (c : Cls X.K C) (n : NoAttr X.K C f) (ha : PE X o ta) (hv : PE X value tv) (hs : swapsWith value (some (.Attribute o f pos')) pos.line X.env = pure false := by rfl) :
    PS X (.Assign [.Attribute o f pos'] value pos) (sFldC C f ta tv) := by
  constructor
  intro pins s σ H D I h
  refine plainObj_wpAny_Assign_Attribute (thn (hv.run pins s σ H _ I h) fun u s1 hh => ?_) hs
  obtain ⟨y, H1, I1, ry, q⟩ := hh
  refine thn (ha.run pins s1 σ H1 _ I1 q) fun ov s2 h2 => ?_
  obtain ⟨x, H2, I2, rx, a, dx, fs, ex, ea, l, q2⟩ := h2
  subst ex
  obtain rfl : ov = Value.ref a := rx
  exact setattr_ok I2 ea c n l ry fun s3 I3 => ⟨σ, _, I3, q2⟩
end

/-! ### operators by names -/
def rIadd : R2 := rI0 fun i j => .int (i + j)
def rIsub : R2 := rI0 fun i j => .int (i - j)
def rImul : R2 := rI CMul fun i j => .int (i * j)
def rImod : R2 := rI (fun _ j => 0 < j) fun i j => .int (i % j)
def rIdiv : R2 := rI CDiv fun i j => .int (i / j)
def rIpow : R2 := rI CPow fun i j => .int (i ^ j.toNat)
def rIlt : R2 := rI0 fun i j => .bl (decide (i < j))
def rIle : R2 := rI0 fun i j => .bl (decide (i ≤ j))
def rIgt : R2 := rI0 fun i j => .bl (decide (j < i))
def rIge : R2 := rI0 fun i j => .bl (decide (j ≤ i))
def rIeq : R2 := rI0 fun i j => .bl (decide (i = j))
def rIne : R2 := rI0 fun i j => .bl (!decide (i = j))
def rSeq : R2 := fun x y H Q => ∃ a b, x = .str a ∧ y = .str b ∧ Q (.bl (decide (a = b))) H
def rSne : R2 := fun x y H Q => ∃ a b, x = .str a ∧ y = .str b ∧ Q (.bl (!decide (a = b))) H
def rSadd : R2 := fun x y H Q => ∃ i j, x = .str i ∧ y = .str j ∧ i.length + j.length ≤ sizeLine ∧ Q (.str (i ++ j)) H
def rNis : R2 := fun x y H Q => y = .non ∧ Q (.bl (decide (x = .non))) H
def rNno : R2 := fun x y H Q => y = .non ∧ Q (.bl (!decide (x = .non))) H
def rBne : R2 := fun x y H Q => ∃ a b, x = .bl a ∧ y = .bl b ∧ Q (.bl (!decide (a = b))) H
section
variable {X : Cx}
theorem oIadd : OpR X (binaryOp .Add) rIadd := op_add
theorem oIsub : OpR X (binaryOp .Sub) rIsub := op_sub
theorem oImul : OpR X (binaryOp .Mult) rImul := op_mul
theorem oImod : OpR X (binaryOp .Mod) rImod := op_mod
theorem oIdiv : OpR X (binaryOp .FloorDiv) rIdiv := op_fdiv
theorem oIpow : OpR X (binaryOp .Pow) rIpow := op_pow
theorem oIlt : OpR X (compareOp .Lt) rIlt := op_lt
theorem oIle : OpR X (compareOp .LtE) rIle := op_le
theorem oIgt : OpR X (compareOp .Gt) rIgt := op_gt
theorem oIge : OpR X (compareOp .GtE) rIge := op_ge
theorem oSadd : OpR X (binaryOp .Add) rSadd := op_add_str
theorem oNis : OpR X (compareOp .Is) rNis := op_isN
theorem oNno : OpR X (compareOp .IsNot) rNno := op_notN
theorem dint (i j : Int) : decide (V.int i = V.int j) = decide (i = j) := by simp
theorem dstr (i j : Str) : decide (V.str i = V.str j) = decide (i = j) := by simp
theorem dbl (i j : Bool) : decide (V.bl i = V.bl j) = decide (i = j) := by simp
theorem oIeq : OpR X (compareOp .Eq) rIeq := fun pins s σ H x y v u Q I rx ry ⟨i, j, ex, ey, q⟩ => op_eq pins s σ H x y v u Q I rx ry (by subst ex; subst ey; exact ⟨rfl, by rw [dint]; exact q⟩)
theorem oIne : OpR X (compareOp .NotEq) rIne := fun pins s σ H x y v u Q I rx ry ⟨i, j, ex, ey, q⟩ => op_ne pins s σ H x y v u Q I rx ry (by subst ex; subst ey; exact ⟨rfl, by rw [dint]; exact q⟩)
theorem oSeq : OpR X (compareOp .Eq) rSeq := fun pins s σ H x y v u Q I rx ry ⟨i, j, ex, ey, q⟩ => op_eq pins s σ H x y v u Q I rx ry (by subst ex; subst ey; exact ⟨rfl, by rw [dstr]; exact q⟩)
theorem oSne : OpR X (compareOp .NotEq) rSne := fun pins s σ H x y v u Q I rx ry ⟨i, j, ex, ey, q⟩ => op_ne pins s σ H x y v u Q I rx ry (by subst ex; subst ey; exact ⟨rfl, by rw [dstr]; exact q⟩)
theorem oBne : OpR X (compareOp .NotEq) rBne := fun pins s σ H x y v u Q I rx ry ⟨i, j, ex, ey, q⟩ => op_ne pins s σ H x y v u Q I rx ry (by subst ex; subst ey; exact ⟨rfl, by rw [dbl]; exact q⟩)
end

/-! ### steps of a reading -/
section
variable {K : PySem.W.Frag} {nx bk ct : St → Hp → Prop} {rt : VK} {σ : St} {H : Hp} {Q : VK} {t u : TS} {ta tb te tv td ty : TE} {tt tu : TT} {R : Bool → Hp → Prop} {i : Nat} {v x y : V} {r : R2} {ra : List V → Hp → VK → Prop} {as : TA}
  {S : List V → Hp → Prop} {C p : Addr} {f m : Str} {o : HO}
theorem k_seq (h : t ⟨u ⟨nx, rt, bk, ct⟩, rt, bk, ct⟩ σ H) : tSeq t u ⟨nx, rt, bk, ct⟩ σ H := h
theorem k_next (h : nx σ H) : tNext ⟨nx, rt, bk, ct⟩ σ H := h
theorem k_asg (h : te σ H fun v H1 => nx (σ.set i (some v)) H1) : tAsg te (gName i) ⟨nx, rt, bk, ct⟩ σ H := h
theorem k_ret (h : te σ H rt) : tRet te ⟨nx, rt, bk, ct⟩ σ H := h
theorem k_retN (h : rt .non H) : tRetN ⟨nx, rt, bk, ct⟩ σ H := h
theorem k_drop (h : te σ H fun _ H1 => nx σ H1) : tDrop te ⟨nx, rt, bk, ct⟩ σ H := h
theorem k_ifS (h : tt σ H fun b H1 => if b = true then t ⟨nx, rt, bk, ct⟩ σ H1 else u ⟨nx, rt, bk, ct⟩ σ H1) : tIfS tt t u ⟨nx, rt, bk, ct⟩ σ H := h
theorem k_var (h : σ[i]? = some (some v)) (q : Q v H) : tVar i σ H Q := ⟨v, h, q⟩
theorem k_c (q : Q v H) : tC v σ H Q := q
theorem k_op (h : ta σ H fun x H1 => tb σ H1 fun y H2 => r x y H2 Q) : tOp r ta tb σ H Q := h
def LNeg (x : V) (H : Hp) (Q : VK) : Prop := ∃ i, x = .int i ∧ Q (.int (-i)) H
theorem l_neg {i : Int} (q : Q (.int (-i)) H) : LNeg (.int i) H Q := ⟨i, rfl, q⟩
theorem k_neg (h : ta σ H fun x H1 => LNeg x H1 Q) : tUn (rU fun i => .int (-i)) ta σ H Q := h
theorem k_negc {i : Int} (q : Q (.int (-i)) H) : tUn (rU fun i => .int (-i)) (tC (.int i)) σ H Q := ⟨i, rfl, q⟩
theorem k_cb (h : as σ H fun vs H1 => ra vs H1 Q) : tCB ra as σ H Q := h
theorem k_nil (h : S [] H) : tNil σ H S := h
theorem k_cons {ar : TA} (h : te σ H fun x H1 => ar σ H1 fun xs H2 => S (x :: xs) H2) : tCons te ar σ H S := h
theorem k_test (h : te σ H fun x H1 => ∃ k, x = .bl k ∧ R k H1) : tTest te σ H R := h
theorem k_B (h : te σ H fun x H1 => ∃ k, x = .bl k ∧ R k H1) : tB te σ H R := h
theorem k_not (h : tt σ H fun c H1 => R (!c) H1) : tNot tt σ H R := h
theorem k_and (h : tt σ H fun c H1 => if c = true then tu σ H1 R else R false H1) : tAnd tt tu σ H R := h
theorem k_or (h : tt σ H fun c H1 => if c = true then R true H1 else tu σ H1 R) : tOr tt tu σ H R := h
theorem k_notV (h : ta σ H fun x H1 => ∃ c, x = .bl c ∧ Q (.bl (!c)) H1) : tNotV ta σ H Q := h
theorem k_andV (h : ta σ H fun x H1 => ∃ c, x = .bl c ∧ if c = true then tb σ H1 Q else Q (.bl false) H1) : tAndV ta tb σ H Q := h
theorem k_orV (h : ta σ H fun x H1 => ∃ c, x = .bl c ∧ if c = true then Q (.bl true) H1 else tb σ H1 Q) : tOrV ta tb σ H Q := h
theorem k_bl {b : Bool} {P : Bool → Prop} (h : P b) : ∃ c, V.bl b = V.bl c ∧ P c := ⟨b, rfl, h⟩
-- values
theorem k_add {i j : Int} (q : Q (.int (i + j)) H) : rIadd (.int i) (.int j) H Q := ⟨i, j, rfl, rfl, q⟩
theorem k_sub {i j : Int} (q : Q (.int (i - j)) H) : rIsub (.int i) (.int j) H Q := ⟨i, j, rfl, rfl, q⟩
theorem k_mul {i j : Int} (h : CMul i j) (q : Q (.int (i * j)) H) : rImul (.int i) (.int j) H Q := ⟨i, j, rfl, rfl, h, q⟩
theorem k_mod {i j : Int} (h : 0 < j) (q : Q (.int (i % j)) H) : rImod (.int i) (.int j) H Q := ⟨i, j, rfl, rfl, h, q⟩
theorem k_div {i j : Int} (h : CDiv i j) (q : Q (.int (i / j)) H) : rIdiv (.int i) (.int j) H Q := ⟨i, j, rfl, rfl, h, q⟩
theorem k_pow {i j : Int} (h : CPow i j) (q : Q (.int (i ^ j.toNat)) H) : rIpow (.int i) (.int j) H Q := ⟨i, j, rfl, rfl, h, q⟩
theorem k_p6 (q : Q (.int 1000000) H) : rIpow (.int 10) (.int 6) H Q := ⟨10, 6, rfl, rfl, ⟨by decide, by decide, by decide⟩, q⟩
theorem k_p9 (q : Q (.int 1000000000) H) : rIpow (.int 10) (.int 9) H Q := ⟨10, 9, rfl, rfl, ⟨by decide, by decide, by decide⟩, q⟩
theorem k_p12 (q : Q (.int 1000000000000) H) : rIpow (.int 10) (.int 12) H Q := ⟨10, 12, rfl, rfl, ⟨by decide, by decide, by decide⟩, q⟩
theorem k_p13 (q : Q (.int 10000000000000) H) : rIpow (.int 10) (.int 13) H Q := ⟨10, 13, rfl, rfl, ⟨by decide, by decide, by decide⟩, q⟩
theorem k_p18 (q : Q (.int 1000000000000000000) H) : rIpow (.int 10) (.int 18) H Q := ⟨10, 18, rfl, rfl, ⟨by decide, by decide, by decide⟩, q⟩
theorem k_p30 (q : Q (.int 1000000000000000000000000000000) H) : rIpow (.int 10) (.int 30) H Q := ⟨10, 30, rfl, rfl, ⟨by decide, by decide, by decide⟩, q⟩
theorem k_lt {i j : Int} (q : Q (.bl (decide (i < j))) H) : rIlt (.int i) (.int j) H Q := ⟨i, j, rfl, rfl, q⟩
theorem k_le {i j : Int} (q : Q (.bl (decide (i ≤ j))) H) : rIle (.int i) (.int j) H Q := ⟨i, j, rfl, rfl, q⟩
theorem k_gt {i j : Int} (q : Q (.bl (decide (j < i))) H) : rIgt (.int i) (.int j) H Q := ⟨i, j, rfl, rfl, q⟩
theorem k_ge {i j : Int} (q : Q (.bl (decide (j ≤ i))) H) : rIge (.int i) (.int j) H Q := ⟨i, j, rfl, rfl, q⟩
theorem k_eq {i j : Int} (q : Q (.bl (decide (i = j))) H) : rIeq (.int i) (.int j) H Q := ⟨i, j, rfl, rfl, q⟩
theorem k_ne {i j : Int} (q : Q (.bl (!decide (i = j))) H) : rIne (.int i) (.int j) H Q := ⟨i, j, rfl, rfl, q⟩
theorem k_seqS {i j : Str} (q : Q (.bl (decide (i = j))) H) : rSeq (.str i) (.str j) H Q := ⟨i, j, rfl, rfl, q⟩
theorem k_neS {i j : Str} (q : Q (.bl (!decide (i = j))) H) : rSne (.str i) (.str j) H Q := ⟨i, j, rfl, rfl, q⟩
theorem k_neB {i j : Bool} (q : Q (.bl (!decide (i = j))) H) : rBne (.bl i) (.bl j) H Q := ⟨i, j, rfl, rfl, q⟩
theorem k_addS {i j : Str} (h : i.length + j.length ≤ sizeLine) (q : Q (.str (i ++ j)) H) : rSadd (.str i) (.str j) H Q := ⟨i, j, rfl, rfl, h, q⟩
theorem k_isN (q : Q (.bl (decide (x = .non))) H) : rNis x .non H Q := ⟨rfl, q⟩
theorem k_noN (q : Q (.bl (!decide (x = .non))) H) : rNno x .non H Q := ⟨rfl, q⟩
-- fields
def LFld (C : Addr) (f : Str) (x : V) (H : Hp) (Q : VK) : Prop := ∃ a dx fs v, x = .ref a ∧ H a = some (.ins C dx fs) ∧ fs.lookup f = some v ∧ Q v H
theorem k_fld (h : ta σ H fun x H1 => LFld C f x H1 Q) : tFldC C f ta σ H Q := h
theorem l_fld {a dx : Addr} {fs : List (Str × V)} (h : H a = some (.ins C dx fs)) (l : fs.lookup f = some v) (q : Q v H) : LFld C f (.ref a) H Q := ⟨a, dx, fs, v, rfl, h, l, q⟩
def LFldS (C : Addr) (f : Str) (y x : V) (H : Hp) (R : Hp → Prop) : Prop := ∃ a dx fs, x = .ref a ∧ H a = some (.ins C dx fs) ∧ fs.length < 1000 ∧ R (upd H a (.ins C dx (putF f y fs)))
theorem k_fldS (h : tv σ H fun y H1 => ta σ H1 fun x H2 => LFldS C f y x H2 fun H3 => nx σ H3) : sFldC C f ta tv ⟨nx, rt, bk, ct⟩ σ H := h
theorem l_fldS {F : List Addr} {H0 : Hp} {a dx : Addr} {fs fs' : List (Str × V)} {R : Hp → Prop} (r : Run F H0 H) (h : H a = some (.ins C dx fs)) (z : fs.length < 1000) (e : putF f y fs = fs') (w : a ∈ F ∨ H0 a = none)
    (q : ∀ H', Run F H0 H' → H' a = some (.ins C dx fs') → (∀ b, b ≠ a → H' b = H b) → R H') : LFldS C f y (.ref a) H R :=
  ⟨a, dx, fs, rfl, h, z, by rw [e]; exact q _ (r.wr h (by intro _ z; cases z) w) upd_same fun b n => upd_ne n⟩
/-- an object whose method is called -/
def LIns (C : Addr) (m : Str) (x : V) (H : Hp) (P : Prop) : Prop := ∃ a dx fs, x = .ref a ∧ H a = some (.ins C dx fs) ∧ fs.lookup m = none ∧ P
theorem l_ins {a dx : Addr} {fs : List (Str × V)} {P : Prop} (h : H a = some (.ins C dx fs)) (l : fs.lookup m = none) (q : P) : LIns C m (.ref a) H P := ⟨a, dx, fs, rfl, h, l, q⟩
theorem k_methS {sp : Sp} {E : St → XK} (h : ta σ H fun x H1 => LIns C m x H1 (as σ H1 fun vs H2 => sp (x :: vs) H2 Q (E σ))) : tMethS C m sp E ta as σ H Q := h
theorem k_meth0 {sp : Sp} {E : St → XK} (h : ta σ H fun x H1 => LIns C m x H1 (sp [x] H1 Q (E σ))) : tMeth0 C m sp E ta σ H Q := h
theorem k_callS {sp : Sp} {E : St → XK} (h : as σ H fun vs H1 => sp vs H1 Q (E σ)) : tCallS sp E as σ H Q := h
theorem k_callE {sp : SpE} {a : Addr} {c : Value} {d : Option Addr} (h : as σ H fun vs H1 => sp a c d vs H1 Q E0) : tCallE sp a c d as σ H Q := h
-- dicts
def LDGet (x y : V) (H : Hp) (Q : VK) : Prop := ∃ a v, x = .ref a ∧ DGet H a y (some v) ∧ Q v H
theorem k_dget (h : td σ H fun x H1 => ty σ H1 fun y H2 => LDGet x y H2 Q) : tDGet td ty σ H Q := h
def LDIn (y x : V) (H : Hp) (Q : VK) : Prop := ∃ a o, x = .ref a ∧ DGet H a y o ∧ Q (.bl o.isSome) H
theorem k_din (h : ty σ H fun y H1 => td σ H1 fun x H2 => LDIn y x H2 Q) : tDIn ty td σ H Q := h
def LDNotIn (y x : V) (H : Hp) (Q : VK) : Prop := ∃ a o, x = .ref a ∧ DGet H a y o ∧ Q (.bl (!o.isSome)) H
theorem k_dnotin (h : ty σ H fun y H1 => td σ H1 fun x H2 => LDNotIn y x H2 Q) : tDNotIn ty td σ H Q := h
def LDPut (v x y : V) (H : Hp) (R : Hp → Prop) : Prop := ∃ a H4, x = .ref a ∧ DPut H a y v H4 ∧ R H4
theorem k_dput (h : tv σ H fun v H1 => td σ H1 fun x H2 => ty σ H2 fun y H3 => LDPut v x y H3 fun H4 => nx σ H4) : sDPut td ty tv ⟨nx, rt, bk, ct⟩ σ H := h
def LIsD (x : V) (H : Hp) (P : Addr → Prop) : Prop := ∃ a, x = .ref a ∧ IsD H a ∧ P a
def LDPop (a : Addr) (y : V) (H : Hp) (Q : VK) : Prop := ∃ kvs k v, H a = some (.dK kvs) ∧ y = kV k ∧ valV kvs k = some v ∧ Q v (upd H a (.dK (dropK kvs k)))
theorem k_dpop (h : td σ H fun x H1 => LIsD x H1 fun a => ty σ H1 fun y H2 => LDPop a y H2 Q) : tDPop1 td ty σ H Q := h
def LDGet2 (a : Addr) (y z : V) (H : Hp) (Q : VK) : Prop := ∃ o, DGet H a y o ∧ Q (o.getD z) H
theorem k_dget2 (h : td σ H fun x H1 => LIsD x H1 fun a => ty σ H1 fun y H2 => te σ H2 fun z H3 => LDGet2 a y z H3 Q) : tDGet2 td ty te σ H Q := h
theorem l_dgetI {a : Addr} {kvs : List (Key × V)} {n : Int} (h : H a = some (.dK kvs)) (e : valV kvs (Sum.inl n : Key) = some v) (q : Q v H) : LDGet (.ref a) (.int n) H Q := ⟨a, v, rfl, by rw [← e]; exact DGet.k (k := Sum.inl n) h, q⟩
theorem l_dgetS {a : Addr} {kvs : List (Key × V)} {n : Str} (h : H a = some (.dK kvs)) (e : valV kvs (Sum.inr n : Key) = some v) (q : Q v H) : LDGet (.ref a) (.str n) H Q := ⟨a, v, rfl, by rw [← e]; exact DGet.k (k := Sum.inr n) h, q⟩
theorem l_dgetIF {a : Addr} {kvs : List (Key × V)} {n : Int} {ob : Obj} (h : H a = some (.frz ob (.dK kvs))) (e : valV kvs (Sum.inl n : Key) = some v) (q : Q v H) : LDGet (.ref a) (.int n) H Q := ⟨a, v, rfl, .inl ⟨kvs, .inl n, .inr ⟨ob, h⟩, rfl, e.symm⟩, q⟩
theorem l_dgetSF {a : Addr} {kvs : List (Key × V)} {n : Str} {ob : Obj} (h : H a = some (.frz ob (.dK kvs))) (e : valV kvs (Sum.inr n : Key) = some v) (q : Q v H) : LDGet (.ref a) (.str n) H Q := ⟨a, v, rfl, .inl ⟨kvs, .inr n, .inr ⟨ob, h⟩, rfl, e.symm⟩, q⟩
theorem l_dinI {a : Addr} {kvs : List (Key × V)} {n : Int} (h : H a = some (.dK kvs)) (q : Q (.bl (valV kvs (Sum.inl n : Key)).isSome) H) : LDIn (.int n) (.ref a) H Q := ⟨a, _, rfl, DGet.k (k := Sum.inl n) h, q⟩
theorem l_dinS {a : Addr} {kvs : List (Key × V)} {n : Str} (h : H a = some (.dK kvs)) (q : Q (.bl (valV kvs (Sum.inr n : Key)).isSome) H) : LDIn (.str n) (.ref a) H Q := ⟨a, _, rfl, DGet.k (k := Sum.inr n) h, q⟩
theorem l_dnotinI {a : Addr} {kvs : List (Key × V)} {n : Int} (h : H a = some (.dK kvs)) (q : Q (.bl (!(valV kvs (Sum.inl n : Key)).isSome)) H) : LDNotIn (.int n) (.ref a) H Q := ⟨a, _, rfl, DGet.k (k := Sum.inl n) h, q⟩
theorem l_dnotinS {a : Addr} {kvs : List (Key × V)} {n : Str} (h : H a = some (.dK kvs)) (q : Q (.bl (!(valV kvs (Sum.inr n : Key)).isSome)) H) : LDNotIn (.str n) (.ref a) H Q := ⟨a, _, rfl, DGet.k (k := Sum.inr n) h, q⟩
theorem l_dputI {F : List Addr} {H0 : Hp} {a : Addr} {kvs kvs' : List (Key × V)} {n : Int} {R : Hp → Prop} (r : Run F H0 H) (h : H a = some (.dK kvs)) (z : kvs.length < sizeLine) (e : putK kvs (Sum.inl n : Key) v = kvs') (w : a ∈ F ∨ H0 a = none)
    (q : ∀ H', Run F H0 H' → H' a = some (.dK kvs') → (∀ b, b ≠ a → H' b = H b) → R H') : LDPut v (.ref a) (.int n) H R :=
  ⟨a, _, rfl, DPut.k (k := Sum.inl n) h z, q _ (r.wr h (by intro _ z; cases z) w) (by rw [← e]; exact upd_same) fun b n => upd_ne n⟩
theorem l_dputS {F : List Addr} {H0 : Hp} {a : Addr} {kvs kvs' : List (Key × V)} {n : Str} {R : Hp → Prop} (r : Run F H0 H) (h : H a = some (.dK kvs)) (z : kvs.length < sizeLine) (e : putK kvs (Sum.inr n : Key) v = kvs') (w : a ∈ F ∨ H0 a = none)
    (q : ∀ H', Run F H0 H' → H' a = some (.dK kvs') → (∀ b, b ≠ a → H' b = H b) → R H') : LDPut v (.ref a) (.str n) H R :=
  ⟨a, _, rfl, DPut.k (k := Sum.inr n) h z, q _ (r.wr h (by intro _ z; cases z) w) (by rw [← e]; exact upd_same) fun b n => upd_ne n⟩
theorem l_isD {a : Addr} {kvs : List (Key × V)} {P : Addr → Prop} (h : H a = some (.dK kvs)) (q : P a) : LIsD (.ref a) H P := ⟨a, rfl, .inl ⟨kvs, .inl h⟩, q⟩
theorem l_dpopI {F : List Addr} {H0 : Hp} {a : Addr} {kvs kvs' : List (Key × V)} {n : Int} (r : Run F H0 H) (h : H a = some (.dK kvs)) (e : valV kvs (Sum.inl n : Key) = some v) (e2 : dropK kvs (Sum.inl n : Key) = kvs') (w : a ∈ F ∨ H0 a = none)
    (q : ∀ H', Run F H0 H' → H' a = some (.dK kvs') → (∀ b, b ≠ a → H' b = H b) → Q v H') : LDPop a (.int n) H Q :=
  ⟨kvs, Sum.inl n, v, h, rfl, e, q _ (r.wr h (by intro _ z; cases z) w) (by rw [← e2]; exact upd_same) fun b n => upd_ne n⟩
theorem l_dpopS {F : List Addr} {H0 : Hp} {a : Addr} {kvs kvs' : List (Key × V)} {n : Str} (r : Run F H0 H) (h : H a = some (.dK kvs)) (e : valV kvs (Sum.inr n : Key) = some v) (e2 : dropK kvs (Sum.inr n : Key) = kvs') (w : a ∈ F ∨ H0 a = none)
    (q : ∀ H', Run F H0 H' → H' a = some (.dK kvs') → (∀ b, b ≠ a → H' b = H b) → Q v H') : LDPop a (.str n) H Q :=
  ⟨kvs, Sum.inr n, v, h, rfl, e, q _ (r.wr h (by intro _ z; cases z) w) (by rw [← e2]; exact upd_same) fun b n => upd_ne n⟩
theorem l_dget2S {a : Addr} {kvs : List (Key × V)} {n : Str} (h : H a = some (.dK kvs)) (q : Q ((valV kvs (Sum.inr n : Key)).getD x) H) : LDGet2 a (.str n) x H Q := ⟨_, DGet.k (k := Sum.inr n) h, q⟩
-- new lists, tuples
def LNew (o : HO) (H : Hp) (Q : VK) : Prop := ∀ p, H p = none → Q (.ref p) (upd H p o)
def LTup (vs : List V) (H : Hp) (Q : VK) : Prop := vs.length ≤ sizeLine ∧ LNew (.tup vs) H Q
def LLst (vs : List V) (H : Hp) (Q : VK) : Prop := vs.length ≤ sizeLine ∧ LNew (.lst vs) H Q
theorem k_tup (h : as σ H fun vs H1 => LTup vs H1 Q) : tTup as σ H Q := h
theorem k_lst (h : as σ H fun vs H1 => LLst vs H1 Q) : tLst as σ H Q := h
theorem l_tup {vs : List V} (z : vs.length ≤ 1000) (q : LNew (.tup vs) H Q) : LTup vs H Q := ⟨Nat.le_trans z (by decide), q⟩
theorem l_lst {vs : List V} (z : vs.length ≤ 1000) (q : LNew (.lst vs) H Q) : LLst vs H Q := ⟨Nat.le_trans z (by decide), q⟩
theorem k_dnew (q : LNew (.dK []) H Q) : tDNewK σ H Q := q
/-- a new object: the heap behind it by what is known of it -/
theorem l_new {F : List Addr} {H0 : Hp} (r : Run F H0 H) (q : ∀ p H', H0 p = none → p ∉ F → H p = none → Run F H0 H' → H' p = some o → Same H H' → Q (.ref p) H') : LNew o H Q := fun p hp =>
  let ⟨r1, r2, r3⟩ := r.new hp
  q p _ r2 r3 hp r1 upd_same (fun a u e => by rw [upd_ne (ne_of_none e hp)]; exact e)
/-- xs.append(e) -/
theorem k_append {K : PySem.W.Frag} (h : ta σ H fun x H1 => tyV K "list" x H1 ∧ as σ H1 fun xs H2 => rAppend x xs H2 Q) : tBM K "list" rAppend ta as σ H Q := h
theorem l_tyL {K : PySem.W.Frag} {a : Addr} {xs : List V} {P : Prop} (h : H a = some (.lst xs)) (q : P) : tyV K "list" (.ref a) H ∧ P := ⟨.inl ⟨rfl, xs, SqL.of h⟩, q⟩
theorem l_append {F : List Addr} {H0 : Hp} {a : Addr} {xs : List V} (r : Run F H0 H) (h : H a = some (.lst xs)) (z : xs.length < sizeLine) (w : a ∈ F ∨ H0 a = none)
    (q : ∀ H', Run F H0 H' → H' a = some (.lst (xs ++ [v])) → (∀ b, b ≠ a → H' b = H b) → Q .non H') : rAppend (.ref a) [v] H Q :=
  ⟨a, xs, v, rfl, rfl, h, z, q _ (r.wr h (by intro _ z; cases z) w) upd_same fun b n => upd_ne n⟩
-- items
def LIxL (K : PySem.W.Frag) (x y : V) (H : Hp) (Q : VK) : Prop := rIxL K x y H Q
theorem l_ixL {a : Addr} {xs : List V} {n : Int} (h : SqL K H a xs) (e : atI xs n = some v) (q : Q v H) : rIxL K (.ref a) (.int n) H Q := ⟨a, xs, n, v, rfl, rfl, h, e, q⟩
theorem l_ixT {a : Addr} {xs : List V} {n : Int} (h : SqT K H a xs) (e : atI xs n = some v) (q : Q v H) : rIxT K (.ref a) (.int n) H Q := ⟨a, xs, n, v, rfl, rfl, h, e, q⟩
theorem k_ift {A B : Prop} (h : A) : if true = true then A else B := by rw [if_pos rfl]; exact h
theorem k_iff {A B : Prop} (h : B) : if false = true then A else B := by rw [if_neg Bool.false_ne_true]; exact h
theorem k_if {b : Bool} {A B : Prop} (h1 : b = true → A) (h0 : b = false → B) : if b = true then A else B := by
  cases b with
  | true => exact k_ift (h1 rfl)
  | false => exact k_iff (h0 rfl)
/-- a test on a proposition -/
theorem k_ifd {p : Prop} [Decidable p] {A B : Prop} (h1 : p → A) (h0 : ¬ p → B) : if decide p = true then A else B := k_if (fun e => h1 (of_decide_eq_true e)) fun e => h0 (of_decide_eq_false e)
theorem k_ifnd {p : Prop} [Decidable p] {A B : Prop} (h1 : ¬ p → A) (h0 : p → B) : if (!decide p) = true then A else B := by
  by_cases h : p
  · rw [decide_eq_true h]
    exact k_iff (h0 h)
  · rw [decide_eq_false h]
    exact k_ift (h1 h)
-- constructors
theorem k_makeS {sp : Sp} {E : St → XK} (h : as σ H fun vs H1 => LMake C (fun x => .ref x :: vs) sp H1 Q (E σ)) : tMakeS C sp E as σ H Q := h
theorem k_makeG {sp : Sp} {n m : Nat} {gV : List V → List V → List V} {E : St → XK} {tk : TA} (h : as σ H fun vs H1 => tk σ H1 fun zs H2 => vs.length = n ∧ zs.length = m ∧ LMake C (fun x => gV (.ref x :: vs) zs) sp H2 Q (E σ)) : tMakeG C n m sp gV E as tk σ H Q := h
theorem l_make {F : List Addr} {H0 : Hp} {as : Addr → List V} {sp : Sp} {E : XK} (r : Run F H0 H)
    (q : ∀ x dx H', H0 x = none → x ∉ F → H x = none → Run F H0 H' → H' x = some (.ins C dx []) → Same H H' → sp (as x) H' (fun v H2 => v = .non ∧ Q (.ref x) H2) E) : LMake C as sp H Q E := fun x dx hx hd ne => by
  have s1 : Same H (upd H dx (.own x)) := fun a u e => by rw [upd_ne (ne_of_none e hd)]; exact e
  have hx1 : upd H dx (.own x) x = none := (upd_ne ne.symm).trans hx
  have s2 : Same (upd H dx (.own x)) (upd (upd H dx (.own x)) x (.ins C dx [])) := fun a u e => by rw [upd_ne (ne_of_none e hx1)]; exact e
  obtain ⟨ra, _, _⟩ := r.new (o := .own x) hd
  obtain ⟨rb, f1, f2⟩ := ra.new (o := .ins C dx []) hx1
  exact q x dx _ f1 f2 hx rb upd_same (fun a u e => s2 a u (s1 a u e))
theorem k_made {p : Addr} (q : Q (.ref p) H) : V.non = .non ∧ Q (.ref p) H := ⟨rfl, q⟩
end
end LW
namespace LW
open PySem L2
theorem hf_n {H H' : Hp} {a b : Addr} {o : HO} (n : ∀ b, b ≠ a → H' b = H b) (h : H b = some o) (ne : b ≠ a) : H' b = some o := (n b ne).trans h
theorem hf_s {H H' : Hp} {b : Addr} {o : HO} (s : Same H H') (h : H b = some o) : H' b = some o := s b o h
theorem hf_e {F : List Addr} {H H' : Hp} {b : Addr} {o : HO} (s : Ext F H H') (h : H b = some o) (n : b ∉ F) : H' b = some o := s.keep b o h n
theorem notin_nil {a : Addr} : a ∉ ([] : List Addr) := List.not_mem_nil
theorem notin_cons {a b : Addr} {l : List Addr} (h : a ≠ b) (n : a ∉ l) : a ∉ b :: l := fun z => (List.mem_cons.mp z).elim h n
end LW

set_option maxHeartbeats 4000000
namespace LW
open PySem PySem.Spec PyProof.Rows L2
theorem tkd {P : Program} {w : World} {K : PySem.W.Frag} {mg : Str → Option Value} {base : Heap} {N : List Str} {qual : Str} {scope : Scope} {f : Addr} {cd : Value} {A : Around} {outer : List Env} {s : Shared} {H : Hp} {E : XK} :
    L2N.Takes (cxOf (L2N.CX P w) P w K mg base N qual scope f cd A outer s H E) (fun cls d _ H => E cls d H) := L2N.takes_of rfl rfl rfl rfl
theorem pod {P : Program} {w : World} {K : PySem.W.Frag} {mg : Str → Option Value} {base : Heap} {N : List Str} {qual : Str} {scope : Scope} {f : Addr} {cd : Value} {A : Around} {outer : List Env} {s : Shared} {H : Hp} {E : XK} :
    PassesOwn (model P w) (cxOf (L2N.CX P w) P w K mg base N qual scope f cd A outer s H E).A (cxOf (L2N.CX P w) P w K mg base N qual scope f cd A outer s H E).env (cxOf (L2N.CX P w) P w K mg base N qual scope f cd A outer s H E).xe :=
  L2.passes_of (X := cxOf (L2N.CX P w) P w K mg base N qual scope f cd A outer s H E) rfl
theorem tk0 {X : Cx} : L2N.Takes X (fun _ _ _ _ => False) := fun _ _ x => by
  obtain ⟨_, _, _, _, _, _, _, _, _, _, _, _, _, _, _, _, z⟩ := x
  exact z.elim

theorem pe_globI {X : Cx} {x : Str} {i : Int} {t : Tok} {pos : Pos} (hg : Gl X x) (hm : X.mg x = some (.int i t)) (hd : (x == ("__debug__" : Str)) = false := by decide) : PE X (.Name x pos) (tC (.int i)) := pe_glob hg hm ⟨_, rfl⟩ hd

/-- a built-in type by its name -/
theorem pe_bltT {X : Cx} {x : Str} {n : String} {pos : Pos} (hg : Gl X x) (hm : X.mg x = none) (hv : bootBuiltins x = some (.type n)) (hn : x ≠ "__name__" := by decide) (hd : (x == ("__debug__" : Str)) = false := by decide) : PE X (.Name x pos) (tC (.ty n)) :=
  pe_bltn hg hm hv rfl hn hd
/-! ### tuples are kept -/
def TupK (H H' : Hp) : Prop := ∀ a xs, H a = some (.tup xs) → H' a = some (.tup xs)
theorem TupK.trans {H H1 H2 : Hp} (a : TupK H H1) (b : TupK H1 H2) : TupK H H2 := fun c xs h => b c xs (a c xs h)
theorem TupK.of {F : List Addr} {H H' : Hp} (e : Ext F H H') : TupK H H' := e.tups
theorem TupK.upd {H : Hp} {p : Addr} {o : HO} (h : ∀ xs, H p ≠ some (.tup xs)) : TupK H (upd H p o) := fun a xs e => by
  rw [upd_ne fun z => h xs (by rw [← z]; exact e)]
  exact e

/-! ### for -/
section
variable {K : PySem.W.Frag} {nx bk ct : St → Hp → Prop} {rt : VK} {σ : St} {H : Hp} {Q : VK} {tb : TS} {g : TG} {te tl td : TE} {tt : TT} {ta : TA}
def LFor (K : PySem.W.Frag) (g : TG) (tb : TS) (D : Ends) (σ : St) (x : V) (H : Hp) : Prop := ∃ a, x = .ref a ∧ (∃ xs, SqL K H a xs) ∧ ∃ W : Nat → Nat → St → Hp → Prop, (∃ m, W 0 m σ H) ∧ ∀ i m σ H, W i m σ H →
  ((Itl K a).stop i H ∧ D.nx σ H) ∨ ((Itl K a).go i H ∧ ∃ N : St → Hp → Prop, (∀ σ' H', N σ' H' → ∃ m', m' < m ∧ W (i + 1) m' σ' H') ∧ ∀ x H', (Itl K a).yld i H x H' → g x σ H' fun σ2 H2 => tb { D with nx := N, ct := N, bk := D.nx } σ2 H2)
theorem k_for (h : tl σ H fun x H1 => LFor K g tb ⟨nx, rt, bk, ct⟩ σ x H1) : tFor (iList K tl) g tb ⟨nx, rt, bk, ct⟩ σ H := h
/-- over a list that stays: P ahead of turn i -/
theorem l_for {a : Addr} {xs : List V} (h : SqL K H a xs) (Pv : Nat → St → Hp → Prop) (h0 : Pv 0 σ H) (hl : ∀ i σ H, i ≤ xs.length → Pv i σ H → SqL K H a xs)
    (hs : ∀ i x σ H, xs[i]? = some x → Pv i σ H → g x σ H fun σ2 H2 => tb ⟨Pv (i + 1), rt, nx, Pv (i + 1)⟩ σ2 H2) (hd : ∀ σ H, Pv xs.length σ H → nx σ H) :
    LFor K g tb ⟨nx, rt, bk, ct⟩ σ (.ref a) H := ⟨a, rfl, ⟨xs, h⟩, for_list (D := ⟨nx, rt, bk, ct⟩) Pv h0 hl hs hd⟩
def LRng (g : TG) (tb : TS) (D : Ends) (σ : St) (lo : Int) (n : Nat) (H : Hp) : Prop := ∃ W : Nat → Nat → St → Hp → Prop, (∃ m, W 0 m σ H) ∧ ∀ i m σ H, W i m σ H →
  ((Itr lo n).stop i H ∧ D.nx σ H) ∨ ((Itr lo n).go i H ∧ ∃ N : St → Hp → Prop, (∀ σ' H', N σ' H' → ∃ m', m' < m ∧ W (i + 1) m' σ' H') ∧ ∀ x H', (Itr lo n).yld i H x H' → g x σ H' fun σ2 H2 => tb { D with nx := N, ct := N, bk := D.nx } σ2 H2)
theorem l_rng {lo : Int} {n : Nat} (Pv : Nat → St → Hp → Prop) (h0 : Pv 0 σ H)
    (hs : ∀ i σ H, i < n → Pv i σ H → g (.int (lo + i)) σ H fun σ2 H2 => tb ⟨Pv (i + 1), rt, nx, Pv (i + 1)⟩ σ2 H2) (hd : ∀ σ H, Pv n σ H → nx σ H) :
    LRng g tb ⟨nx, rt, bk, ct⟩ σ lo n H := for_range (D := ⟨nx, rt, bk, ct⟩) Pv h0 hs hd
def LRngC (g : TG) (tb : TS) (D : Ends) (σ : St) (lo c : Int) (n : Nat) (H : Hp) : Prop := ∃ W : Nat → Nat → St → Hp → Prop, (∃ m, W 0 m σ H) ∧ ∀ i m σ H, W i m σ H →
  ((Itc lo c n).stop i H ∧ D.nx σ H) ∨ ((Itc lo c n).go i H ∧ ∃ N : St → Hp → Prop, (∀ σ' H', N σ' H' → ∃ m', m' < m ∧ W (i + 1) m' σ' H') ∧ ∀ x H', (Itc lo c n).yld i H x H' → g x σ H' fun σ2 H2 => tb { D with nx := N, ct := N, bk := D.nx } σ2 H2)
/-- how many turns -/
def stepN (i j c : Int) : Nat := (Builtin.Range.rangeSize i j c).toNat
theorem stepN_eq {i j c : Int} (hc : 0 < c) : (stepN i j c : Int) = if i < j then (j - i - 1) / c + 1 else 0 := by
  unfold stepN Builtin.Range.rangeSize
  rw [if_pos hc]
  by_cases h : i < j
  · rw [if_pos h]
    have : 0 ≤ (j - i - 1) / c := Int.ediv_nonneg (by omega) (by omega)
    omega
  · rw [if_neg h]; rfl
theorem rgc_up {i j c : Int} (h1 : 0 ≤ i) (h2 : i ≤ 100000) (h3 : -100000 ≤ j) (h4 : j ≤ 100000) (h5 : 0 < c) (h6 : c ≤ 1000) : RgC i j c (stepN i j c) := by
  have e : Builtin.Range.rangeSize i j c = if i < j then (j - i - 1) / c + 1 else 0 := by
    unfold Builtin.Range.rangeSize
    rw [if_pos h5]
  have b : i < j → 0 ≤ (j - i - 1) / c ∧ (j - i - 1) / c ≤ j - i - 1 := fun h => ⟨Int.ediv_nonneg (by omega) (by omega), Int.ediv_le_self _ (by omega)⟩
  refine ⟨by omega, by omega, ?_, ?_⟩
  · unfold Builtin.Range.small
    rw [e]
    simp only [Builtin.Range.rangeFitsLong, Bool.and_eq_true, Bool.or_eq_true, decide_eq_true_eq, beq_iff_eq, h5, if_true]
    by_cases h : i < j
    · have := b h
      simp only [h, if_true]
      refine ⟨?_, ?_⟩ <;> first | omega | (refine ⟨?_, ?_⟩ <;> omega)
    · simp only [h, if_false]
      refine ⟨?_, ?_⟩ <;> first | omega | (refine ⟨?_, ?_⟩ <;> omega)
  · rw [stepN_eq h5, e]
def LR3 (g : TG) (tb : TS) (D : Ends) (σ : St) (vs : List V) (H : Hp) : Prop := ∃ (i j c : Int) (n : Nat), vs = [.int i, .int j, .int c] ∧ RgC i j c n ∧ LRngC g tb D σ i c n H
theorem k_rng3 (h : ta σ H fun vs H1 => LR3 g tb ⟨nx, rt, bk, ct⟩ σ vs H1) : tFor (iRng3 ta) g tb ⟨nx, rt, bk, ct⟩ σ H := h
theorem l_rng3 {D : Ends} {i j c : Int} (h : 0 ≤ i ∧ i ≤ 100000 ∧ -100000 ≤ j ∧ j ≤ 100000 ∧ 0 < c ∧ c ≤ 1000) (q : LRngC g tb D σ i c (stepN i j c) H) : LR3 g tb D σ [.int i, .int j, .int c] H :=
  ⟨i, j, c, _, rfl, let ⟨h1, h2, h3, h4, h5, h6⟩ := h; rgc_up h1 h2 h3 h4 h5 h6, q⟩
def LR2 (g : TG) (tb : TS) (D : Ends) (σ : St) (vs : List V) (H : Hp) : Prop := ∃ i j : Int, vs = [.int i, .int j] ∧ (-(2 ^ 62) ≤ i ∧ i < 2 ^ 62 ∧ -(2 ^ 62) ≤ j ∧ j < 2 ^ 62) ∧ LRng g tb D σ i (j - i).toNat H
theorem k_rng2 (h : ta σ H fun vs H1 => LR2 g tb ⟨nx, rt, bk, ct⟩ σ vs H1) : tFor (iRng2 ta) g tb ⟨nx, rt, bk, ct⟩ σ H := h
theorem l_rng2 {D : Ends} {i j : Int} (h : -100000 ≤ i ∧ i ≤ 100000 ∧ -100000 ≤ j ∧ j ≤ 100000) (q : LRng g tb D σ i (j - i).toNat H) : LR2 g tb D σ [.int i, .int j] H :=
  ⟨i, j, rfl, let ⟨h1, h2, h3, h4⟩ := h; ⟨by omega, by omega, by omega, by omega⟩, q⟩
def LR1 (g : TG) (tb : TS) (D : Ends) (σ : St) (vs : List V) (H : Hp) : Prop := ∃ j : Int, vs = [.int j] ∧ -(2 ^ 62) ≤ j ∧ j < 2 ^ 62 ∧ LRng g tb D σ 0 j.toNat H
theorem k_rng1 (h : ta σ H fun vs H1 => LR1 g tb ⟨nx, rt, bk, ct⟩ σ vs H1) : tFor (iRng1 ta) g tb ⟨nx, rt, bk, ct⟩ σ H := h
theorem l_rng1 {D : Ends} {j : Int} (h : -100000 ≤ j ∧ j ≤ 100000) (q : LRng g tb D σ 0 j.toNat H) : LR1 g tb D σ [.int j] H := ⟨j, rfl, by omega, by omega, q⟩
theorem l_rngC {lo c : Int} {n : Nat} (Pv : Nat → St → Hp → Prop) (h0 : Pv 0 σ H)
    (hs : ∀ i σ H, i < n → Pv i σ H → g (.int (lo + (i : Nat) * c)) σ H fun σ2 H2 => tb ⟨Pv (i + 1), rt, nx, Pv (i + 1)⟩ σ2 H2) (hd : ∀ σ H, Pv n σ H → nx σ H) :
    LRngC g tb ⟨nx, rt, bk, ct⟩ σ lo c n H := for_rangeC (D := ⟨nx, rt, bk, ct⟩) Pv h0 hs hd
theorem g_name {j : Nat} {x : V} {R : St → Hp → Prop} (h : R (σ.set j (some x)) H) : gName j x σ H R := h

/-! ### comprehensions -/
theorem sets3 (σ : St) (j : Nat) (x : Option V) : (σ.set j none).set j x = σ.set j x := by rw [List.set_set]
/-- over the keys of a dict; P i acc H: what the list holds behind i turns, by tuples alone -/
theorem lc_keys {d : Addr} {kvs : List (Key × V)} {j : Nat} (hd : H d = some (.dK kvs)) (hz : kvs.length < sizeLine)
    (htd : ∀ od (R : VK), R (.ref d) (upd H d (.frz od (.dK kvs))) → td σ (upd H d (.frz od (.dK kvs))) R)
    (P : Nat → List V → Hp → Prop) (h0 : P 0 [] H) (hP : ∀ i acc H1 H2, TupK H1 H2 → P i acc H1 → P i acc H2)
    (hs : ∀ i k v od acc H1 (R : VK) (R0 : Hp → Prop), kvs[i]? = some (k, v) → H1 d = some (.frz od (.dK kvs)) → (∀ a o, a ≠ d → H a = some o → H1 a = some o) → acc.length ≤ i → P i acc H1 →
      (∀ y H4, Ext [] H1 H4 → P (i + 1) (acc ++ [y]) H4 → R y H4) → (∀ H3, Ext [] H1 H3 → P (i + 1) acc H3 → R0 H3) →
      tt (σ.set j (some (kV k))) H1 fun b H3 => if b = true then te (σ.set j (some (kV k))) H3 R else R0 H3)
    (q : ∀ D H' acc, H D = none → Ext [] H H' → H' D = some (.lst acc) → acc.length ≤ kvs.length → P kvs.length acc H' → Q (.ref D) H') :
    tLockE (tLc (iKeys td) (gName j) tt te [j]) σ H Q := by
  refine ⟨d, .dK kvs, hd, trivial, fun od => ?_⟩
  refine htd od _ ⟨d, od, rfl, .inl ⟨kvs, upd_same, fun D hD => ?_⟩⟩
  have dD : D ≠ d := fun z => by rw [z, upd_same] at hD; cases hD
  have hD0 : H D = none := by rw [← hD, upd_ne dD]
  -- what holds ahead of turn i
  refine ⟨fun i m H1 => m = kvs.length - i ∧ i ≤ kvs.length ∧ ∃ acc, H1 D = some (.lst acc) ∧ acc.length ≤ i ∧ H1 d = some (.frz od (.dK kvs)) ∧ (∀ a o, a ≠ d → H a = some o → H1 a = some o) ∧ P i acc H1,
    ⟨kvs.length, by simp, Nat.zero_le _, [], upd_same, Nat.le_refl _, by rw [upd_ne dD.symm, upd_same], fun a o h e => ?_, hP 0 [] H _ (fun a xs e => ?_) h0⟩, ?_⟩
  · rw [upd_ne (ne_of_none e hD0), upd_ne h]
    exact e
  · rw [upd_ne (ne_of_none e hD0), upd_ne (ne_of e hd fun z => by cases z)]
    exact e
  rintro i m H1 ⟨rfl, hi, acc, hA, hl, hf, hk, p⟩
  by_cases hlt : i < kvs.length
  · refine .inr ⟨⟨hf, hlt⟩, fun H' => (i + 1 ≤ kvs.length ∧ ∃ acc, H' D = some (.lst acc) ∧ acc.length ≤ i + 1 ∧ H' d = some (.frz od (.dK kvs)) ∧ (∀ a o, a ≠ d → H a = some o → H' a = some o) ∧ P (i + 1) acc H'),
      fun H' p' => ⟨kvs.length - (i + 1), by omega, rfl, p'.1, p'.2⟩, fun x H' y => ?_⟩
    obtain ⟨e, k, v, ek, ex⟩ := y
    subst e ex
    show gName j (kV k) (wipe σ [j]) _ _
    have e1 : (wipe σ [j]).set j (some (kV k)) = σ.set j (some (kV k)) := sets3 σ j _
    have e2 : wipe ((wipe σ [j]).set j (some (kV k))) [j] = wipe σ [j] := by
      show ((σ.set j none).set j (some (kV k))).set j none = σ.set j none
      rw [List.set_set, List.set_set]
    refine ⟨e2, ?_⟩
    rw [e1]
    refine hs i k v od acc H' _ _ ek hf hk hl p (fun y H4 e4 p4 => ?_) fun H3 e3 p3 => ?_
    · have h4 : H4 D = some (.lst acc) := e4.keep _ _ hA (by simp)
      refine ⟨acc, h4, Nat.lt_of_le_of_lt hl (Nat.lt_trans hlt hz), hlt, acc ++ [y], upd_same, by rw [List.length_append]; simpa using hl, by rw [upd_ne dD.symm]; exact e4.keep _ _ hf (by simp), fun a o n e => ?_,
        hP _ _ H4 _ (TupK.upd fun xs z => by rw [h4] at z; cases z) p4⟩
      rw [upd_ne (ne_of_none e hD0)]
      exact e4.keep _ _ (hk a o n e) (by simp)
    · exact ⟨hlt, acc, e3.keep _ _ hA (by simp), Nat.le_succ_of_le hl, e3.keep _ _ hf (by simp), fun a o n e => e3.keep _ _ (hk a o n e) (by simp), p3⟩
  · have e : i = kvs.length := by omega
    subst e
    refine .inl ⟨⟨hf, Nat.le_refl _⟩, hf, q D _ acc hD0 ⟨fun a o e _ => ?_, fun a xs e => ?_⟩ ?_ (by omega) (hP _ _ H1 _ (TupK.upd fun xs z => by rw [hf] at z; cases z) p)⟩
    · by_cases z : a = d
      · rw [z, upd_same, ← hd, ← z]; exact e
      · rw [upd_ne z]; exact hk a o z e
    · have z : a ≠ d := ne_of e hd fun z => by cases z
      rw [upd_ne z]; exact hk a _ z e
    · rw [upd_ne dD]; exact hA
end
end LW

set_option maxHeartbeats 4000000
namespace LW
open PySem PySem.Spec PyProof.Rows L2
/-! ### tables as lists of pairs -/
section
variable {κ α : Type} [DecidableEq κ]
def aget (l : List (κ × α)) (k : κ) : Option α := (l.find? fun p => decide (p.1 = k)).map (·.2)
def aput (l : List (κ × α)) (k : κ) (v : α) : List (κ × α) := if (l.any fun p => decide (p.1 = k)) = true then l.map (fun p => if p.1 = k then (p.1, v) else p) else l ++ [(k, v)]
def adrop (l : List (κ × α)) (k : κ) : List (κ × α) := l.filter fun p => decide (p.1 ≠ k)
theorem aget_nil {k : κ} : aget ([] : List (κ × α)) k = none := rfl
theorem aget_cons {p : κ × α} {r : List (κ × α)} {k : κ} : aget (p :: r) k = if p.1 = k then some p.2 else aget r k := by
  unfold aget
  rw [List.find?_cons]
  by_cases h : p.1 = k
  · simp [h]
  · simp [h]
theorem aget_none {l : List (κ × α)} {k : κ} : aget l k = none ↔ k ∉ l.map (·.1) := by
  induction l with
  | nil => simp [aget_nil]
  | cons p r ih =>
    rw [aget_cons, List.map_cons, List.mem_cons]
    by_cases h : p.1 = k
    · simp [h]
    · rw [if_neg h, ih]
      constructor
      · rintro a (b | b)
        · exact h b.symm
        · exact a b
      · exact fun a b => a (.inr b)
theorem aget_some_mem {l : List (κ × α)} {k : κ} {v : α} (h : aget l k = some v) : (k, v) ∈ l := by
  induction l with
  | nil => cases h
  | cons p r ih =>
    rw [aget_cons] at h
    by_cases e : p.1 = k
    · rw [if_pos e] at h
      cases h
      subst e
      exact List.mem_cons_self
    · rw [if_neg e] at h
      exact List.mem_cons_of_mem _ (ih h)
theorem aget_of_mem {l : List (κ × α)} {k : κ} {v : α} (nd : (l.map (·.1)).Nodup) (h : (k, v) ∈ l) : aget l k = some v := by
  induction l with
  | nil => cases h
  | cons p r ih =>
    rw [List.map_cons, List.nodup_cons] at nd
    rw [aget_cons]
    rcases List.mem_cons.mp h with e | e
    · subst e; simp
    · have : ¬ p.1 = k := fun z => nd.1 (z ▸ List.mem_map.mpr ⟨(k, v), e, rfl⟩)
      rw [if_neg this]
      exact ih nd.2 e
theorem aany {l : List (κ × α)} {k : κ} : (l.any fun p => decide (p.1 = k)) = (aget l k).isSome := by
  induction l with
  | nil => rfl
  | cons p r ih =>
    rw [List.any_cons, aget_cons, ih]
    by_cases h : p.1 = k <;> simp [h]
theorem aput_new {l : List (κ × α)} {k : κ} {v : α} (h : aget l k = none) : aput l k v = l ++ [(k, v)] := by
  unfold aput
  rw [aany, h]
  rfl
theorem aput_old {l : List (κ × α)} {k : κ} {v u : α} (h : aget l k = some u) : aput l k v = l.map (fun p => if p.1 = k then (p.1, v) else p) := by
  unfold aput
  rw [aany, h]
  rfl
theorem keys_aput_old {l : List (κ × α)} {k : κ} {v u : α} (h : aget l k = some u) : (aput l k v).map (·.1) = l.map (·.1) := by
  rw [aput_old h, List.map_map]
  refine List.map_congr_left fun p _ => ?_
  show (if p.1 = k then (p.1, v) else p).1 = p.1
  by_cases e : p.1 = k <;> simp [e]
theorem keys_aput_new {l : List (κ × α)} {k : κ} {v : α} (h : aget l k = none) : (aput l k v).map (·.1) = l.map (·.1) ++ [k] := by
  rw [aput_new h, List.map_append]
  rfl
theorem length_aput {l : List (κ × α)} {k : κ} {v : α} : (aput l k v).length ≤ l.length + 1 := by
  unfold aput
  split
  · rw [List.length_map]; omega
  · rw [List.length_append]; simp
theorem nodup_aput {l : List (κ × α)} {k : κ} {v : α} (h : (l.map (·.1)).Nodup) : ((aput l k v).map (·.1)).Nodup := by
  cases e : aget l k with
  | none =>
    rw [keys_aput_new e]
    refine List.nodup_append.mpr ⟨h, by simp, fun a m b n => ?_⟩
    rw [List.mem_singleton] at n
    subst n
    exact fun z => aget_none.mp e (z ▸ m)
  | some u => rw [keys_aput_old e]; exact h
theorem mem_keys_aput {l : List (κ × α)} {k j : κ} {v : α} : j ∈ (aput l k v).map (·.1) ↔ j = k ∨ j ∈ l.map (·.1) := by
  cases e : aget l k with
  | none => rw [keys_aput_new e]; simp [or_comm]
  | some u =>
    rw [keys_aput_old e]
    constructor
    · exact .inr
    · rintro (rfl | h)
      · exact List.mem_map.mpr ⟨_, aget_some_mem e, rfl⟩
      · exact h
theorem aget_aput {l : List (κ × α)} {k j : κ} {v : α} : aget (aput l k v) j = if k = j then some v else aget l j := by
  cases e : aget l k with
  | none =>
    rw [aput_new e]
    induction l with
    | nil => rw [List.nil_append, aget_cons]
    | cons p r ih =>
      rw [aget_cons] at e
      by_cases h : p.1 = k
      · rw [if_pos h] at e; cases e
      · rw [if_neg h] at e
        rw [List.cons_append, aget_cons, aget_cons, ih e]
        by_cases z : p.1 = j
        · rw [if_pos z, if_pos z, if_neg (fun y => h (z.trans y.symm))]
        · rw [if_neg z, if_neg z]
  | some u =>
    rw [aput_old e]
    induction l generalizing u with
    | nil => cases e
    | cons p r ih =>
      rw [aget_cons] at e
      rw [List.map_cons, aget_cons, aget_cons]
      by_cases h : p.1 = k
      · have e1 : (if p.1 = k then (p.1, v) else p) = (p.1, v) := if_pos h
        rw [e1]
        show (if p.1 = j then some v else _) = _
        by_cases z : p.1 = j
        · rw [if_pos z, if_pos (h.symm.trans z)]
        · rw [if_neg z, if_neg z, if_neg (fun y => z (h.trans y))]
          cases e2 : aget r k with
          | none =>
            have : r.map (fun p => if p.1 = k then (p.1, v) else p) = r := by
              conv => rhs; rw [← List.map_id r]
              refine List.map_congr_left fun q hq => ?_
              have : ¬ q.1 = k := fun y => aget_none.mp e2 (List.mem_map.mpr ⟨q, hq, y⟩)
              rw [if_neg this]; rfl
            rw [this]
          | some u2 =>
            rw [ih u2 e2, if_neg (fun y => z (h.trans y))]
      · rw [if_neg h] at e
        rw [if_neg h, ih u e]
        by_cases z : p.1 = j
        · rw [if_pos z, if_pos z, if_neg (fun y => h (z.trans y.symm))]
        · rw [if_neg z, if_neg z]
theorem aget_adrop {l : List (κ × α)} {k j : κ} : aget (adrop l k) j = if k = j then none else aget l j := by
  induction l with
  | nil => rw [show adrop ([] : List (κ × α)) k = [] from rfl, aget_nil]; simp
  | cons p r ih =>
    unfold adrop at ih ⊢
    rw [List.filter_cons]
    by_cases h : p.1 = k
    · rw [if_neg (by simp [h]), ih, aget_cons]
      by_cases z : k = j
      · rw [if_pos z, if_pos z]
      · rw [if_neg z, if_neg z, if_neg (fun y => z (h.symm.trans y))]
    · rw [if_pos (by simp [h]), aget_cons, ih, aget_cons]
      by_cases z : p.1 = j
      · rw [if_pos z, if_pos z, if_neg (fun y => h (z.trans y.symm))]
      · rw [if_neg z, if_neg z]
theorem nodup_adrop {l : List (κ × α)} {k : κ} (h : (l.map (·.1)).Nodup) : ((adrop l k).map (·.1)).Nodup := h.sublist (List.Sublist.map _ List.filter_sublist)
theorem length_adrop {l : List (κ × α)} {k : κ} : (adrop l k).length ≤ l.length := List.length_filter_le _ _
theorem mem_adrop {l : List (κ × α)} {k : κ} {p : κ × α} : p ∈ adrop l k ↔ p ∈ l ∧ p.1 ≠ k := by
  unfold adrop
  rw [List.mem_filter, decide_eq_true_eq]
theorem mem_keys_adrop {l : List (κ × α)} {k j : κ} : j ∈ (adrop l k).map (·.1) ↔ j ∈ l.map (·.1) ∧ j ≠ k := by
  constructor
  · intro h
    obtain ⟨p, m, e⟩ := List.mem_map.mp h
    obtain ⟨m1, m2⟩ := mem_adrop.mp m
    exact ⟨List.mem_map.mpr ⟨p, m1, e⟩, e ▸ m2⟩
  · rintro ⟨h, n⟩
    obtain ⟨p, m, e⟩ := List.mem_map.mp h
    exact List.mem_map.mpr ⟨p, mem_adrop.mpr ⟨m, e ▸ n⟩, e⟩
theorem mem_aput {l : List (κ × α)} {k : κ} {v : α} {p : κ × α} (h : p ∈ aput l k v) : p = (k, v) ∨ (p ∈ l ∧ p.1 ≠ k) := by
  cases e : aget l k with
  | none =>
    rw [aput_new e] at h
    rcases List.mem_append.mp h with m | m
    · exact .inr ⟨m, fun z => aget_none.mp e (List.mem_map.mpr ⟨p, m, z⟩)⟩
    · exact .inl (List.mem_singleton.mp m)
  | some u =>
    rw [aput_old e] at h
    obtain ⟨q, m, z⟩ := List.mem_map.mp h
    by_cases y : q.1 = k
    · rw [if_pos y] at z
      exact .inl (by rw [← z, y])
    · rw [if_neg y] at z
      subst z
      exact .inr ⟨m, y⟩
end

/-! ### tables of a dict -/
section
variable {α : Type}
/-- keys are ints -/
def ik (W : Int → α → V) (l : List (Int × α)) : List (Key × V) := l.map fun p => (Sum.inl p.1, W p.1 p.2)
/-- keys are texts -/
def sk (W : Str → α → V) (l : List (Str × α)) : List (Key × V) := l.map fun p => (Sum.inr p.1, W p.1 p.2)
theorem ik_len {W : Int → α → V} {l : List (Int × α)} : (ik W l).length = l.length := List.length_map ..
theorem sk_len {W : Str → α → V} {l : List (Str × α)} : (sk W l).length = l.length := List.length_map ..
theorem valV_ik {W : Int → α → V} {l : List (Int × α)} {k : Int} : valV (ik W l) (Sum.inl k : Key) = (aget l k).map (W k) := by
  induction l with
  | nil => rfl
  | cons p r ih =>
    rw [aget_cons]
    by_cases h : p.1 = k
    · rw [if_pos h]
      show valV ((Sum.inl p.1, W p.1 p.2) :: ik W r) _ = _
      rw [valV_pos (by show (Sum.inl p.1 : Key) = _; rw [h]), h]
      rfl
    · rw [if_neg h]
      show valV ((Sum.inl p.1, W p.1 p.2) :: ik W r) _ = _
      rw [valV_neg (fun z => h (Sum.inl.inj z)), ih]
theorem valV_sk {W : Str → α → V} {l : List (Str × α)} {k : Str} : valV (sk W l) (Sum.inr k : Key) = (aget l k).map (W k) := by
  induction l with
  | nil => rfl
  | cons p r ih =>
    rw [aget_cons]
    by_cases h : p.1 = k
    · rw [if_pos h]
      show valV ((Sum.inr p.1, W p.1 p.2) :: sk W r) _ = _
      rw [valV_pos (by show (Sum.inr p.1 : Key) = _; rw [h]), h]
      rfl
    · rw [if_neg h]
      show valV ((Sum.inr p.1, W p.1 p.2) :: sk W r) _ = _
      rw [valV_neg (fun z => h (Sum.inr.inj z)), ih]
theorem ik_ext {W W' : Int → α → V} {l : List (Int × α)} (h : ∀ p ∈ l, W p.1 p.2 = W' p.1 p.2) : ik W l = ik W' l := List.map_congr_left fun p m => by rw [h p m]
theorem sk_ext {W W' : Str → α → V} {l : List (Str × α)} (h : ∀ p ∈ l, W p.1 p.2 = W' p.1 p.2) : sk W l = sk W' l := List.map_congr_left fun p m => by rw [h p m]
theorem putK_ik {W W' : Int → α → V} {l : List (Int × α)} {k : Int} {v : α} {x : V} (e : W' k v = x) (h : ∀ p ∈ l, p.1 ≠ k → W p.1 p.2 = W' p.1 p.2) : putK (ik W l) (Sum.inl k) x = ik W' (aput l k v) := by
  unfold putK
  have a : ((ik W l).any fun kv => decide (kv.1 = (Sum.inl k : Key))) = (l.any fun p => decide (p.1 = k)) := by
    unfold ik
    rw [List.any_map]
    congr 1
    funext p
    show decide ((Sum.inl p.1 : Key) = Sum.inl k) = _
    by_cases z : p.1 = k
    · simp [z]
    · rw [decide_eq_false (fun y => z (Sum.inl.inj y)), decide_eq_false z]
  rw [a]
  unfold aput
  split
  · rename_i hh
    unfold ik
    rw [List.map_map, List.map_map]
    refine List.map_congr_left fun p m => ?_
    show (if (Sum.inl p.1 : Key) = Sum.inl k then _ else _) = _
    by_cases z : p.1 = k
    · rw [if_pos (by rw [z])]
      show _ = (Sum.inl (if p.1 = k then (p.1, v) else p).1, W' (if p.1 = k then (p.1, v) else p).1 (if p.1 = k then (p.1, v) else p).2)
      rw [if_pos z, ← e, ← z]
    · rw [if_neg (fun y => z (Sum.inl.inj y))]
      show _ = (Sum.inl (if p.1 = k then (p.1, v) else p).1, W' (if p.1 = k then (p.1, v) else p).1 (if p.1 = k then (p.1, v) else p).2)
      rw [if_neg z]
      show (Sum.inl p.1, W p.1 p.2) = (Sum.inl p.1, W' p.1 p.2)
      rw [h p m z]
  · rename_i hh
    have hn : ∀ p ∈ l, p.1 ≠ k := fun p m z => hh (List.any_eq_true.mpr ⟨p, m, by simp [z]⟩)
    unfold ik
    rw [List.map_append]
    show _ = _ ++ [(Sum.inl k, W' k v)]
    rw [e]
    congr 1
    exact List.map_congr_left fun p m => by rw [h p m (hn p m)]
theorem putK_sk {W W' : Str → α → V} {l : List (Str × α)} {k : Str} {v : α} {x : V} (e : W' k v = x) (h : ∀ p ∈ l, p.1 ≠ k → W p.1 p.2 = W' p.1 p.2) : putK (sk W l) (Sum.inr k) x = sk W' (aput l k v) := by
  unfold putK
  have a : ((sk W l).any fun kv => decide (kv.1 = (Sum.inr k : Key))) = (l.any fun p => decide (p.1 = k)) := by
    unfold sk
    rw [List.any_map]
    congr 1
    funext p
    show decide ((Sum.inr p.1 : Key) = Sum.inr k) = _
    by_cases z : p.1 = k
    · simp [z]
    · rw [decide_eq_false (fun y => z (Sum.inr.inj y)), decide_eq_false z]
  rw [a]
  unfold aput
  split
  · rename_i hh
    unfold sk
    rw [List.map_map, List.map_map]
    refine List.map_congr_left fun p m => ?_
    show (if (Sum.inr p.1 : Key) = Sum.inr k then _ else _) = _
    by_cases z : p.1 = k
    · rw [if_pos (by rw [z])]
      show _ = (Sum.inr (if p.1 = k then (p.1, v) else p).1, W' (if p.1 = k then (p.1, v) else p).1 (if p.1 = k then (p.1, v) else p).2)
      rw [if_pos z, ← e, ← z]
    · rw [if_neg (fun y => z (Sum.inr.inj y))]
      show _ = (Sum.inr (if p.1 = k then (p.1, v) else p).1, W' (if p.1 = k then (p.1, v) else p).1 (if p.1 = k then (p.1, v) else p).2)
      rw [if_neg z]
      show (Sum.inr p.1, W p.1 p.2) = (Sum.inr p.1, W' p.1 p.2)
      rw [h p m z]
  · rename_i hh
    have hn : ∀ p ∈ l, p.1 ≠ k := fun p m z => hh (List.any_eq_true.mpr ⟨p, m, by simp [z]⟩)
    unfold sk
    rw [List.map_append]
    show _ = _ ++ [(Sum.inr k, W' k v)]
    rw [e]
    congr 1
    exact List.map_congr_left fun p m => by rw [h p m (hn p m)]
theorem dropK_ik {W : Int → α → V} {l : List (Int × α)} {k : Int} : dropK (ik W l) (Sum.inl k : Key) = ik W (adrop l k) := by
  unfold dropK ik adrop
  rw [List.filter_map]
  congr 1
  refine List.filter_congr fun p _ => ?_
  show decide ((Sum.inl p.1 : Key) ≠ Sum.inl k) = _
  simp
theorem dropK_sk {W : Str → α → V} {l : List (Str × α)} {k : Str} : dropK (sk W l) (Sum.inr k : Key) = sk W (adrop l k) := by
  unfold dropK sk adrop
  rw [List.filter_map]
  congr 1
  refine List.filter_congr fun p _ => ?_
  show decide ((Sum.inr p.1 : Key) ≠ Sum.inr k) = _
  simp
theorem ik_get {W : Int → α → V} {l : List (Int × α)} {i : Nat} {k : Key} {v : V} (h : (ik W l)[i]? = some (k, v)) : ∃ p, l[i]? = some p ∧ k = Sum.inl p.1 ∧ v = W p.1 p.2 := by
  unfold ik at h
  rw [List.getElem?_map] at h
  cases e : l[i]? with
  | none => rw [e] at h; cases h
  | some p => rw [e] at h; cases h; exact ⟨p, rfl, rfl, rfl⟩
theorem sk_get {W : Str → α → V} {l : List (Str × α)} {i : Nat} {k : Key} {v : V} (h : (sk W l)[i]? = some (k, v)) : ∃ p, l[i]? = some p ∧ k = Sum.inr p.1 ∧ v = W p.1 p.2 := by
  unfold sk at h
  rw [List.getElem?_map] at h
  cases e : l[i]? with
  | none => rw [e] at h; cases h
  | some p => rw [e] at h; cases h; exact ⟨p, rfl, rfl, rfl⟩
end
/-- values are ints -/
abbrev iv : Int → Int → V := fun _ v => .int v
theorem putK_iv {l : List (Int × Int)} {k v : Int} : putK (ik iv l) (Sum.inl k : Key) (.int v) = ik iv (aput l k v) := putK_ik rfl fun _ _ _ => rfl
theorem valV_iv {l : List (Int × Int)} {k v : Int} (h : aget l k = some v) : valV (ik iv l) (Sum.inl k : Key) = some (.int v) := by rw [valV_ik, h]; rfl
theorem take_succ {α : Type} {l : List α} {i : Nat} {x : α} (h : l[i]? = some x) : l.take (i + 1) = l.take i ++ [x] := by
  rw [List.take_succ, h]
  rfl

/-! ### two sorted lists with the same items are one -/
theorem perm_sorted_eq {α : Type} {le : α → α → Prop} (anti : ∀ a b, le a b → le b a → a = b) : ∀ {l m : List α}, l.Perm m → l.Pairwise le → m.Pairwise le → l = m
  | [], m, p, _, _ => (List.nil_perm.mp p).symm
  | a :: l, [], p, _, _ => absurd (List.perm_nil.mp p) (by simp)
  | a :: l, b :: m, p, h1, h2 => by
    have e : a = b := by
      have m1 : a ∈ b :: m := p.mem_iff.mp List.mem_cons_self
      have m2 : b ∈ a :: l := p.mem_iff.mpr List.mem_cons_self
      rcases List.mem_cons.mp m1 with z | z
      · exact z
      · rcases List.mem_cons.mp m2 with y | y
        · exact y.symm
        · exact anti a b ((List.pairwise_cons.mp h1).1 b y) ((List.pairwise_cons.mp h2).1 a z)
    subst e
    rw [perm_sorted_eq anti (List.perm_cons a |>.mp p) (List.pairwise_cons.mp h1).2 (List.pairwise_cons.mp h2).2]
/-- pairs of ints by Python's order -/
def pLe (a b : Int × Int) : Prop := a.1 < b.1 ∨ (a.1 = b.1 ∧ a.2 ≤ b.2)
instance (a b : Int × Int) : Decidable (pLe a b) := inferInstanceAs (Decidable (_ ∨ _))
theorem pLe_anti (a b : Int × Int) (h : pLe a b) (h' : pLe b a) : a = b := by
  obtain ⟨x, y⟩ := a
  obtain ⟨z, w⟩ := b
  unfold pLe at h h'
  simp only at h h'
  have e1 : x = z := by omega
  have e2 : y = w := by omega
  rw [e1, e2]
def sortP (l : List (Int × Int)) : List (Int × Int) := l.mergeSort fun a b => decide (pLe a b)
theorem sortP_perm (l : List (Int × Int)) : (sortP l).Perm l := List.mergeSort_perm _ _
theorem sortP_sorted (l : List (Int × Int)) : (sortP l).Pairwise pLe := by
  have h := List.pairwise_mergeSort (le := fun a b => decide (pLe a b)) (fun a b c h1 h2 => ?_) (fun a b => ?_) l
  · exact h.imp fun {a b} e => of_decide_eq_true e
  · have a1 := of_decide_eq_true h1
    have a2 := of_decide_eq_true h2
    refine decide_eq_true ?_
    unfold pLe at *
    omega
  · rw [Bool.or_eq_true, decide_eq_true_eq, decide_eq_true_eq]
    unfold pLe
    omega
theorem sortP_unique {l m : List (Int × Int)} (p : m.Perm l) (h : m.Pairwise pLe) : m = sortP l :=
  perm_sorted_eq pLe_anti (p.trans (sortP_perm l).symm) h (sortP_sorted l)
end LW

set_option maxHeartbeats 4000000
namespace LW
open PySem PySem.Spec PyProof.Rows L2
/-! ### what a value holds, by tuples -/
section
variable {α : Type}
/-- y is a tuple that holds f x -/
def IsT (f : α → List V) (H : Hp) (y : V) (x : α) : Prop := ∃ t, y = .ref t ∧ H t = some (.tup (f x))
theorem IsT.keep {f : α → List V} {H H' : Hp} {y : V} {x : α} (k : TupK H H') (h : IsT f H y x) : IsT f H' y x := let ⟨t, e, a⟩ := h; ⟨t, e, k _ _ a⟩
theorem keepT {f : α → List V} {H H' : Hp} {ys : List V} {xs : List α} (k : TupK H H') (h : Paired (IsT f H) ys xs) : Paired (IsT f H') ys xs := h.mono fun _ _ => IsT.keep k
theorem snocT {f : α → List V} {H : Hp} {ys : List V} {xs : List α} {y : V} {x : α} (h : Paired (IsT f H) ys xs) (hy : IsT f H y x) : Paired (IsT f H) (ys ++ [y]) (xs ++ [x]) := Paired.snoc h hy
theorem getT {f : α → List V} {H : Hp} : ∀ {ys : List V} {xs : List α} {i : Nat} {y : V}, Paired (IsT f H) ys xs → ys[i]? = some y → ∃ x, xs[i]? = some x ∧ IsT f H y x
  | _, _, _, _, .nil, e => by simp at e
  | _, _, 0, _, .cons a _, e => by simp at e; subst e; exact ⟨_, rfl, a⟩
  | _, _, i + 1, y, .cons a t, e => by
    obtain ⟨x, h1, h2⟩ := getT (i := i) (y := y) t (by simpa using e)
    exact ⟨x, by simpa using h1, h2⟩
theorem appT {f : α → List V} {H : Hp} : ∀ {ys zs : List V} {xs ws : List α}, Paired (IsT f H) ys xs → Paired (IsT f H) zs ws → Paired (IsT f H) (ys ++ zs) (xs ++ ws)
  | _, _, _, _, .nil, h => h
  | _, _, _, _, .cons a t, h => .cons a (appT t h)
theorem takeT {f : α → List V} {H : Hp} : ∀ {ys : List V} {xs : List α} (n : Nat), Paired (IsT f H) ys xs → Paired (IsT f H) (ys.take n) (xs.take n)
  | _, _, 0, _ => .nil
  | _, _, n + 1, .nil => .nil
  | _, _, n + 1, .cons a t => .cons a (takeT n t)
theorem dropT {f : α → List V} {H : Hp} : ∀ {ys : List V} {xs : List α} (n : Nat), Paired (IsT f H) ys xs → Paired (IsT f H) (ys.drop n) (xs.drop n)
  | _, _, 0, h => h
  | _, _, n + 1, .nil => .nil
  | _, _, n + 1, .cons a t => dropT n t
end
/-- a pair of ints -/
abbrev fP (p : Int × Int) : List V := [.int p.1, .int p.2]
abbrev IsP : Hp → V → Int × Int → Prop := IsT fP
theorem keepP {H H' : Hp} {ys : List V} {ps : List (Int × Int)} (k : TupK H H') (h : Paired (IsP H) ys ps) : Paired (IsP H') ys ps := keepT k h
def pairOf (H : Hp) : V → Int × Int
  | .ref t => match H t with
    | some (.tup [.int i, .int j]) => (i, j)
    | _ => (0, 0)
  | _ => (0, 0)
theorem isP_of {H : Hp} {y : V} {p : Int × Int} (h : IsP H y p) : pairOf H y = p := by
  obtain ⟨t, rfl, e⟩ := h
  show (match H t with
    | some (.tup [.int i, .int j]) => (i, j)
    | _ => (0, 0)) = p
  rw [e]
theorem pmapOf {H : Hp} {xs : List V} {ds : List (Int × Int)} (h : Paired (IsP H) xs ds) : xs.map (pairOf H) = ds := by
  induction h with
  | nil => rfl
  | cons a _ ih => rw [List.map_cons, isP_of a, ih]
theorem pall {α β : Type} {F : α → β → Prop} {xs : List α} {ys : List β} (h : Paired F xs ys) : ∀ x ∈ xs, ∃ y, F x y := by
  induction h with
  | nil => intro x m; cases m
  | cons a _ ih =>
    intro x m
    rcases List.mem_cons.mp m with e | e
    · exact ⟨_, e ▸ a⟩
    · exact ih x e
theorem paired_map {H : Hp} : ∀ {ys : List V}, (∀ y ∈ ys, ∃ p, IsP H y p) → Paired (IsP H) ys (ys.map (pairOf H))
  | [], _ => .nil
  | y :: ys, h => by
    obtain ⟨p, hp⟩ := h y List.mem_cons_self
    refine .cons ?_ (paired_map fun z m => h z (List.mem_cons_of_mem _ m))
    rw [isP_of hp]
    exact hp
section
variable {K : PySem.W.Frag} {H : Hp} {Q : VK}
theorem l_sortedP {F : List Addr} {H0 : Hp} {a : Addr} {xs : List V} {ds : List (Int × Int)} (r : Run F H0 H) (h : H a = some (.lst xs)) (hx : Paired (IsP H) xs ds)
    (q : ∀ p H' ys, H0 p = none → p ∉ F → H p = none → Run F H0 H' → H' p = some (.lst ys) → Same H H' → Paired (IsP H') ys (sortP ds) → Q (.ref p) H') : rSortedPO K [.ref a] H Q := by
  refine ⟨a, xs, pairOf H, rfl, SqL.of h, fun x m => ?_, fun ys p h1 h2 hp => ?_⟩
  · obtain ⟨d, t, e, z⟩ := pall hx x m
    refine ⟨t, e, ?_⟩
    rw [e, isP_of (p := d) ⟨t, rfl, z⟩]
    exact z
  · obtain ⟨r1, r2, r3⟩ := r.new (o := .lst ys) hp
    have sm : Same H (upd H p (.lst ys)) := fun a u e => by rw [upd_ne (ne_of_none e hp)]; exact e
    refine q p _ ys r2 r3 hp r1 upd_same sm ?_
    have al : ∀ y ∈ ys, ∃ d, IsP H y d := fun y m => pall hx y (h2.perm.mem_iff.mp m)
    have e : ys.map (pairOf H) = sortP ds := by
      refine sortP_unique ?_ ?_
      · rw [← pmapOf hx]
        exact h2.perm.map _
      · refine List.pairwise_map.mpr (List.Pairwise.imp (fun {x y} hxy => ?_) h1)
        have z : ¬ ((pairOf H y).1 < (pairOf H x).1 ∨ ((pairOf H y).1 = (pairOf H x).1 ∧ (pairOf H y).2 < (pairOf H x).2)) := fun w => Bool.false_ne_true (hxy.symm.trans (SrtO.lexB_iff.mpr w))
        unfold pLe
        omega
    rw [← e]
    exact keepP (fun a u => sm a _) (paired_map al)
end
end LW
namespace LW
open PySem PySem.Spec PyProof.Rows L2
section
variable {K : PySem.W.Frag} {σ : St} {H : Hp} {Q : VK} {te td : TE} {tt : TT} {α : Type}
theorem lc_keysI {d : Addr} {W : Int → α → V} {l : List (Int × α)} {j : Nat} (hd : H d = some (.dK (ik W l))) (hz : (ik W l).length < sizeLine)
    (htd : ∀ od (R : VK), R (.ref d) (upd H d (.frz od (.dK (ik W l)))) → td σ (upd H d (.frz od (.dK (ik W l)))) R)
    (P : List (Int × α) → List V → Hp → Prop) (h0 : P [] [] H) (hP : ∀ m acc H1 H2, TupK H1 H2 → P m acc H1 → P m acc H2)
    (hs : ∀ i p od acc H1 (R : VK) (R0 : Hp → Prop), l[i]? = some p → H1 d = some (.frz od (.dK (ik W l))) → (∀ a o, a ≠ d → H a = some o → H1 a = some o) → acc.length ≤ i → P (l.take i) acc H1 →
      (∀ y H4, Ext [] H1 H4 → P (l.take i ++ [p]) (acc ++ [y]) H4 → R y H4) → (∀ H3, Ext [] H1 H3 → P (l.take i ++ [p]) acc H3 → R0 H3) →
      tt (σ.set j (some (.int p.1))) H1 fun b H3 => if b = true then te (σ.set j (some (.int p.1))) H3 R else R0 H3)
    (q : ∀ D H' acc, H D = none → Ext [] H H' → H' D = some (.lst acc) → acc.length ≤ l.length → P l acc H' → Q (.ref D) H') :
    tLockE (tLc (iKeys td) (gName j) tt te [j]) σ H Q := by
  refine lc_keys hd hz htd (fun i acc H' => P (l.take i) acc H') h0 (fun i => hP _) (fun i k v od acc H1 R R0 ek hf hk hl hp q1 q0 => ?_) (fun D H' acc nD e hD lD hp => ?_)
  · obtain ⟨p, el, rfl, rfl⟩ := ik_get ek
    have e1 := take_succ el
    exact hs i p od acc H1 R R0 el hf hk hl hp (fun y H4 e4 p4 => q1 y H4 e4 (by rw [e1]; exact p4)) fun H3 e3 p3 => q0 H3 e3 (by rw [e1]; exact p3)
  · rw [ik_len] at lD hp
    rw [List.take_length] at hp
    exact q D H' acc nD e hD lD hp
theorem lc_keysS {d : Addr} {W : Str → α → V} {l : List (Str × α)} {j : Nat} (hd : H d = some (.dK (sk W l))) (hz : (sk W l).length < sizeLine)
    (htd : ∀ od (R : VK), R (.ref d) (upd H d (.frz od (.dK (sk W l)))) → td σ (upd H d (.frz od (.dK (sk W l)))) R)
    (P : List (Str × α) → List V → Hp → Prop) (h0 : P [] [] H) (hP : ∀ m acc H1 H2, TupK H1 H2 → P m acc H1 → P m acc H2)
    (hs : ∀ i p od acc H1 (R : VK) (R0 : Hp → Prop), l[i]? = some p → H1 d = some (.frz od (.dK (sk W l))) → (∀ a o, a ≠ d → H a = some o → H1 a = some o) → acc.length ≤ i → P (l.take i) acc H1 →
      (∀ y H4, Ext [] H1 H4 → P (l.take i ++ [p]) (acc ++ [y]) H4 → R y H4) → (∀ H3, Ext [] H1 H3 → P (l.take i ++ [p]) acc H3 → R0 H3) →
      tt (σ.set j (some (.str p.1))) H1 fun b H3 => if b = true then te (σ.set j (some (.str p.1))) H3 R else R0 H3)
    (q : ∀ D H' acc, H D = none → Ext [] H H' → H' D = some (.lst acc) → acc.length ≤ l.length → P l acc H' → Q (.ref D) H') :
    tLockE (tLc (iKeys td) (gName j) tt te [j]) σ H Q := by
  refine lc_keys hd hz htd (fun i acc H' => P (l.take i) acc H') h0 (fun i => hP _) (fun i k v od acc H1 R R0 ek hf hk hl hp q1 q0 => ?_) (fun D H' acc nD e hD lD hp => ?_)
  · obtain ⟨p, el, rfl, rfl⟩ := sk_get ek
    have e1 := take_succ el
    exact hs i p od acc H1 R R0 el hf hk hl hp (fun y H4 e4 p4 => q1 y H4 e4 (by rw [e1]; exact p4)) fun H3 e3 p3 => q0 H3 e3 (by rw [e1]; exact p3)
  · rw [sk_len] at lD hp
    rw [List.take_length] at hp
    exact q D H' acc nD e hD lD hp
end
theorem pmapP {H : Hp} {acc : List V} {m : List (Int × Int)} {p : Int × Int} {y : V} (h : Paired (IsP H) acc m) (hy : IsP H y p) : Paired (IsP H) (acc ++ [y]) (m ++ [p]) := Paired.snoc h hy
end LW

set_option maxHeartbeats 4000000
namespace LW
open PySem PySem.Spec PyProof.Rows L2
/-! ### built-ins by names -/
def rLenQ (K : PySem.W.Frag) : List V → Hp → VK → Prop := fun xs H Q => ∃ p ys, xs = [.ref p] ∧ (SqL K H p ys ∨ SqT K H p ys) ∧ Q (.int ys.length) H
def rLenX : List V → Hp → VK → Prop := fun xs H Q => ∃ z, xs = [.str z] ∧ z.length ≤ sizeLine ∧ Q (.int z.length) H
def rListQ (K : PySem.W.Frag) : List V → Hp → VK → Prop := fun xs H Q => ∃ p ys, xs = [.ref p] ∧ (SqL K H p ys ∨ SqT K H p ys) ∧ ∀ l, H l = none → Q (.ref l) (upd H l (.lst ys))
section
variable {X : Cx}
theorem oLen : CallR X (.builtin "len") (rLenQ X.K) := call_len_seq
theorem oLenX : CallR X (.builtin "len") rLenX := call_len_str
theorem oList : CallR X (.type "list") (rListQ X.K) := call_list_of
end
/-! ### data -/
/-- what == sees of a plain value -/
def toD : V → PyData
  | .bl b => .bool b
  | .int i => .int i
  | .str x => .str x
  | _ => .none
def plainV : V → Bool
  | .non => true | .bl _ => true | .int _ => true | .str x => PyData.strOk x
  | _ => false
/-- None, a truth value, an int, a text -/
def simpV : V → Bool
  | .non => true | .bl _ => true | .int _ => true | .str _ => true
  | _ => false
section
variable {K : PySem.W.Frag} {H : Hp} {Q : VK} {α : Type} {f : α → List V}
theorem dp_plain {v : V} (h : plainV v = true) : Dp K H v (toD v) := by
  cases v with
  | non => exact .non
  | bl b => exact .bl b
  | int i => exact .int i
  | str x => exact .str x
  | _ => cases h
theorem dp_plains : ∀ {vs : List V}, vs.all plainV = true → DpAll K H vs (vs.map toD)
  | [], _ => .nil
  | v :: vs, h => by
    rw [List.all_cons, Bool.and_eq_true] at h
    exact .cons (dp_plain h.1) (dp_plains h.2)
theorem dp_tup {y : V} {x : α} (hf : (f x).all plainV = true) (h : IsT f H y x) : Dp K H y (.tuple ((f x).map toD)) := by
  obtain ⟨t, rfl, e⟩ := h
  exact .tup (SqT.of e) (dp_plains hf)
theorem dp_tups (hf : ∀ x, (f x).all plainV = true) {ys : List V} {xs : List α} (h : Paired (IsT f H) ys xs) : DpAll K H ys (xs.map fun x => .tuple ((f x).map toD)) := by
  induction h with
  | nil => exact .nil
  | cons a _ ih => exact .cons (dp_tup (hf _) a) ih
theorem lay_plain : ∀ {v : V}, plainV v = true → (toD v).canLay0 = true ∧ (toD v).depth ≤ 1
  | .non, _ => by constructor <;> simp [toD, PyData.canLay0, PyData.depth]
  | .bl _, _ => by constructor <;> simp [toD, PyData.canLay0, PyData.depth]
  | .int _, _ => by constructor <;> simp [toD, PyData.canLay0, PyData.depth]
  | .str x, h => by
    have h' : PyData.strOk x = true := h
    constructor <;> simp [toD, PyData.canLay0, PyData.depth, h']
  | .byt _, h => by cases h
  | .flt _, h => by cases h
  | .ref _, h => by cases h
  | .ty _, h => by cases h
theorem lay_plains : ∀ {vs : List V}, vs.all plainV = true → PyData.canLayAll0 (vs.map toD) = true ∧ PyData.depthAll (vs.map toD) ≤ 1
  | [], _ => by constructor <;> simp [PyData.canLayAll0, PyData.depthAll]
  | v :: vs, h => by
    rw [List.all_cons, Bool.and_eq_true] at h
    obtain ⟨a, b⟩ := lay_plain h.1
    obtain ⟨c, d⟩ := lay_plains h.2
    constructor
    · simp [PyData.canLayAll0, a, c]
    · simp [PyData.depthAll]; omega
theorem lay_tups (hf : ∀ x, (f x).all plainV = true) : ∀ xs : List α, PyData.canLayAll0 (xs.map fun x => .tuple ((f x).map toD)) = true ∧ PyData.depthAll (xs.map fun x => .tuple ((f x).map toD)) ≤ 2
  | [] => by constructor <;> simp [PyData.canLayAll0, PyData.depthAll]
  | x :: xs => by
    obtain ⟨a, b⟩ := lay_plains (hf x)
    obtain ⟨c, d⟩ := lay_tups hf xs
    constructor
    · simp [PyData.canLayAll0, PyData.canLay0, a, c]
    · simp [PyData.depthAll, PyData.depth]; omega
theorem shaped_tups (hf : ∀ x, (f x).all plainV = true) (xs : List α) : SeqAt.shaped (.list (xs.map fun x => .tuple ((f x).map toD))) = true := by
  obtain ⟨a, b⟩ := lay_tups hf xs
  unfold SeqAt.shaped
  rw [Bool.and_eq_true, decide_eq_true_eq]
  constructor
  · simpa [PyData.canLay0] using a
  · simp [PyData.depth]; omega
theorem shaped_plain {v : V} (h : plainV v = true) : SeqAt.shaped (toD v) = true := by
  obtain ⟨a, b⟩ := lay_plain h
  unfold SeqAt.shaped
  rw [Bool.and_eq_true, decide_eq_true_eq]
  exact ⟨a, by omega⟩
theorem shaped_lay {d : PyData} (h : SeqAt.shaped d = true) : d.canLay0 = true := SeqAt.canLay_of_shaped h
/-- two lists of the same tuples are equal -/
theorem l_eqT {a b : Addr} {xs ys : List V} {ds : List α} (hf : ∀ x, (f x).all plainV = true) (ha : SqL K H a xs) (hb : SqL K H b ys) (h1 : Paired (IsT f H) xs ds) (h2 : Paired (IsT f H) ys ds) (q : Q (.bl true) H) :
    rEqD K (.ref a) (.ref b) H Q := ⟨_, _, .lst ha (dp_tups hf h1), .lst hb (dp_tups hf h2), shaped_tups hf ds, shaped_tups hf ds, by rw [SeqAt.eqv_refl _ (shaped_lay (shaped_tups hf ds))]; exact q⟩
theorem eqv_plain : ∀ {x y : V}, plainV x = true → plainV y = true → (∀ b, x ≠ .bl b) → (∀ b, y ≠ .bl b) → PyData.eqv (toD x) (toD y) = decide (x = y)
  | .non, .non, _, _, _, _ => by simp [toD, PyData.eqv]
  | .non, .int _, _, _, _, _ => by simp [toD, PyData.eqv]
  | .non, .str _, _, _, _, _ => by simp [toD, PyData.eqv]
  | .int _, .non, _, _, _, _ => by simp [toD, PyData.eqv]
  | .int i, .int j, _, _, _, _ => by simp [toD, PyData.eqv, Bool.beq_eq_decide_eq]
  | .int _, .str _, _, _, _, _ => by simp [toD, PyData.eqv]
  | .str _, .non, _, _, _, _ => by simp [toD, PyData.eqv]
  | .str _, .int _, _, _, _, _ => by simp [toD, PyData.eqv]
  | .str i, .str j, _, _, _, _ => by simp [toD, PyData.eqv, Bool.beq_eq_decide_eq]
  | .bl b, _, _, _, h, _ => absurd rfl (h b)
  | .non, .bl b, _, _, _, h => absurd rfl (h b)
  | .int _, .bl b, _, _, _, h => absurd rfl (h b)
  | .str _, .bl b, _, _, _, h => absurd rfl (h b)
  | .byt _, _, h, _, _, _ => by cases h
  | .flt _, _, h, _, _, _ => by cases h
  | .ref _, _, h, _, _, _ => by cases h
  | .ty _, _, h, _, _, _ => by cases h
  | .non, .byt _, _, h, _, _ => by cases h
  | .non, .flt _, _, h, _, _ => by cases h
  | .non, .ref _, _, h, _, _ => by cases h
  | .non, .ty _, _, h, _, _ => by cases h
  | .int _, .byt _, _, h, _, _ => by cases h
  | .int _, .flt _, _, h, _, _ => by cases h
  | .int _, .ref _, _, h, _, _ => by cases h
  | .int _, .ty _, _, h, _, _ => by cases h
  | .str _, .byt _, _, h, _, _ => by cases h
  | .str _, .flt _, _, h, _, _ => by cases h
  | .str _, .ref _, _, h, _, _ => by cases h
  | .str _, .ty _, _, h, _, _ => by cases h
/-- two plain values (no truth values) -/
theorem l_eqV {x y : V} (hx : plainV x = true) (hy : plainV y = true) (hb : ∀ b, x ≠ .bl b) (hb2 : ∀ b, y ≠ .bl b) (q : Q (.bl (decide (x = y))) H) : rEqD K x y H Q :=
  ⟨_, _, dp_plain hx, dp_plain hy, shaped_plain hx, shaped_plain hy, by rw [eqv_plain hx hy hb hb2]; exact q⟩
theorem l_neV {x y : V} (hx : plainV x = true) (hy : plainV y = true) (hb : ∀ b, x ≠ .bl b) (hb2 : ∀ b, y ≠ .bl b) (q : Q (.bl (!decide (x = y))) H) : rNeD K x y H Q :=
  ⟨_, _, dp_plain hx, dp_plain hy, shaped_plain hx, shaped_plain hy, by rw [eqv_plain hx hy hb hb2]; exact q⟩
theorem shaped_nil : SeqAt.shaped (.list []) = true := by decide +kernel
theorem eqv_nil (ds : List PyData) : PyData.eqv (.list ds) (.list []) = ds.isEmpty := by
  cases ds <;> simp [PyData.eqv, PyData.eqvAll]
/-- a list of tuples against [] -/
theorem l_neT0 {a b : Addr} {xs : List V} {ds : List α} (hf : ∀ x, (f x).all plainV = true) (ha : SqL K H a xs) (hb : SqL K H b []) (h1 : Paired (IsT f H) xs ds) (q : Q (.bl (!ds.isEmpty)) H) : rNeD K (.ref a) (.ref b) H Q :=
  ⟨_, _, .lst ha (dp_tups hf h1), .lst hb .nil, shaped_tups hf ds, shaped_nil, by rw [eqv_nil]; simpa using q⟩
theorem l_eqT0 {a b : Addr} {xs : List V} {ds : List α} (hf : ∀ x, (f x).all plainV = true) (ha : SqL K H a xs) (hb : SqL K H b []) (h1 : Paired (IsT f H) xs ds) (q : Q (.bl ds.isEmpty) H) : rEqD K (.ref a) (.ref b) H Q :=
  ⟨_, _, .lst ha (dp_tups hf h1), .lst hb .nil, shaped_tups hf ds, shaped_nil, by rw [eqv_nil]; simpa using q⟩
/-- [] against [] -/
theorem l_neN {a b : Addr} (ha : SqL K H a []) (hb : SqL K H b []) (q : Q (.bl false) H) : rNeD K (.ref a) (.ref b) H Q :=
  ⟨_, _, .lst ha .nil, .lst hb .nil, shaped_nil, shaped_nil, by rw [eqv_nil]; exact q⟩
/-- lists of texts -/
theorem l_eqTx {a b : Addr} {xs ys : List Str} (ox : ∀ x ∈ xs, PyData.strOk x = true) (oy : ∀ x ∈ ys, PyData.strOk x = true) (ha : SqL K H a (xs.map V.str)) (hb : SqL K H b (ys.map V.str)) (q : Q (.bl (decide (xs = ys))) H) : rEqD K (.ref a) (.ref b) H Q := by
  have al : ∀ l : List Str, (∀ x ∈ l, PyData.strOk x = true) → (l.map V.str).all plainV = true := fun l h => by
    rw [List.all_eq_true]
    intro v m
    obtain ⟨x, mx, rfl⟩ := List.mem_map.mp m
    exact h x mx
  have sh : ∀ l : List Str, (∀ x ∈ l, PyData.strOk x = true) → SeqAt.shaped (.list ((l.map V.str).map toD)) = true := fun l h => by
    obtain ⟨a, b⟩ := lay_plains (al l h)
    unfold SeqAt.shaped
    rw [Bool.and_eq_true, decide_eq_true_eq]
    constructor
    · simpa [PyData.canLay0] using a
    · simp only [PyData.depth]; omega
  refine ⟨_, _, .lst ha (dp_plains (al xs ox)), .lst hb (dp_plains (al ys oy)), sh xs ox, sh ys oy, ?_⟩
  have e : PyData.eqv (.list ((xs.map V.str).map toD)) (.list ((ys.map V.str).map toD)) = decide (xs = ys) := by
    rw [PyData.eqv]
    clear ha hb q ox oy
    induction xs generalizing ys with
    | nil => cases ys <;> simp [PyData.eqvAll]
    | cons x xs ih =>
      cases ys with
      | nil => simp [PyData.eqvAll]
      | cons y ys =>
        simp only [List.map_cons, PyData.eqvAll, toD, PyData.eqv] at ih ⊢
        rw [ih]
        by_cases h1 : x = y <;> by_cases h2 : xs = ys <;> simp [h1, h2]
  rw [e]
  exact q

/-! ### isinstance -/
def isI : V → Bool
  | .int _ => true
  | _ => false
def isS : V → Bool
  | .str _ => true
  | _ => false
def isB : V → Bool
  | .bl _ => true
  | _ => false
theorem l_isiI {v : V} (h : simpV v = true) (q : Q (.bl (isI v || isB v)) H) : rIsi K [v, .ty "int"] H Q := by
  cases v with
  | non => exact ⟨_, _, _, _, false, rfl, .ty _, .base .non, kit_ty (by decide +kernel), q⟩
  | bl b => exact ⟨_, _, _, _, true, rfl, .ty _, .base (.bl b), kit_ty (by decide +kernel), q⟩
  | int i => exact ⟨_, _, _, _, true, rfl, .ty _, .base (.int i), kit_ty (by decide +kernel), q⟩
  | str x => exact ⟨_, _, _, _, false, rfl, .ty _, .base (.str x), kit_ty (by decide +kernel), q⟩
  | _ => cases h
theorem l_isiB {v : V} (h : simpV v = true) (q : Q (.bl (isB v)) H) : rIsi K [v, .ty "bool"] H Q := by
  cases v with
  | non => exact ⟨_, _, _, _, false, rfl, .ty _, .base .non, kit_ty (by decide +kernel), q⟩
  | bl b => exact ⟨_, _, _, _, true, rfl, .ty _, .base (.bl b), kit_ty (by decide +kernel), q⟩
  | int i => exact ⟨_, _, _, _, false, rfl, .ty _, .base (.int i), kit_ty (by decide +kernel), q⟩
  | str x => exact ⟨_, _, _, _, false, rfl, .ty _, .base (.str x), kit_ty (by decide +kernel), q⟩
  | _ => cases h
theorem l_isiS {v : V} (h : simpV v = true) (q : Q (.bl (isS v)) H) : rIsi K [v, .ty "str"] H Q := by
  cases v with
  | non => exact ⟨_, _, _, _, false, rfl, .ty _, .base .non, kit_ty (by decide +kernel), q⟩
  | bl b => exact ⟨_, _, _, _, false, rfl, .ty _, .base (.bl b), kit_ty (by decide +kernel), q⟩
  | int i => exact ⟨_, _, _, _, false, rfl, .ty _, .base (.int i), kit_ty (by decide +kernel), q⟩
  | str x => exact ⟨_, _, _, _, true, rfl, .ty _, .base (.str x), kit_ty (by decide +kernel), q⟩
  | _ => cases h
theorem l_isiL {a : Addr} {xs : List V} (h : H a = some (.lst xs)) (q : Q (.bl true) H) : rIsi K [.ref a, .ty "list"] H Q := ⟨_, _, _, _, true, rfl, .ty _, .base (.lst h), kit_ty (by decide +kernel), q⟩
theorem l_isiT {a : Addr} {xs : List V} (h : H a = some (.tup xs)) (q : Q (.bl true) H) : rIsi K [.ref a, .ty "tuple"] H Q := ⟨_, _, _, _, true, rfl, .ty _, .base (.tup h), kit_ty (by decide +kernel), q⟩

/-! ### displays of dicts -/
def LDisp (p : Addr) (ps : List (V × V)) (H : Hp) (Q : VK) : Prop := H p = some (.dK []) ∧ ∃ kvs : List (Key × V), ps = kvs.map (fun kv => (kV kv.1, kv.2)) ∧ kvs.length ≤ 15 ∧ Q (.ref p) (upd H p (.dK (mergeK [] kvs)))
variable {σ : St} {trs : List (TE × TE)} {tk tv : TE} {R : List (V × V) → Hp → Prop}
theorem k_disp {F : List Addr} {H0 : Hp} (r : Run F H0 H) (q : ∀ p H', H0 p = none → p ∉ F → H p = none → Run F H0 H' → H' p = some (.dK []) → Same H H' → tPairs trs σ H' fun ps H2 => LDisp p ps H2 Q) :
    tDisp trs σ H Q := fun p hp =>
  let ⟨r1, r2, r3⟩ := r.new hp
  q p _ r2 r3 hp r1 upd_same (fun a u e => by rw [upd_ne (ne_of_none e hp)]; exact e)
theorem k_pnil (q : R [] H) : tPairs [] σ H R := q
theorem k_pcons (q : tk σ H fun x H1 => tv σ H1 fun y H2 => tPairs trs σ H2 fun ps H3 => R ((x, y) :: ps) H3) : tPairs ((tk, tv) :: trs) σ H R := q
def keyOf : V × V → Key × V
  | (.str s, v) => (.inr s, v)
  | (.int i, v) => (.inl i, v)
  | (_, v) => (.inl 0, v)
theorem l_disp {F : List Addr} {H0 : Hp} {p : Addr} {ps : List (V × V)} {kvs : List (Key × V)} (r : Run F H0 H) (h : H p = some (.dK [])) (e : ps = (ps.map keyOf).map (fun kv => (kV kv.1, kv.2))) (z : (ps.map keyOf).length ≤ 15) (e2 : mergeK [] (ps.map keyOf) = kvs) (w : p ∈ F ∨ H0 p = none)
    (q : ∀ H', Run F H0 H' → H' p = some (.dK kvs) → (∀ b, b ≠ p → H' b = H b) → Q (.ref p) H') : LDisp p ps H Q :=
  ⟨h, _, e, z, by rw [e2]; exact q _ (r.wr h (by intro _ z; cases z) w) upd_same fun b n => upd_ne n⟩
-- len, list methods
theorem l_lenL {a : Addr} {xs : List V} (h : SqL K H a xs) (q : Q (.int xs.length) H) : rLenQ K [.ref a] H Q := ⟨a, _, rfl, .inl h, q⟩
theorem l_lenT {a : Addr} {xs : List V} (h : SqT K H a xs) (q : Q (.int xs.length) H) : rLenQ K [.ref a] H Q := ⟨a, _, rfl, .inr h, q⟩
theorem l_lenX {z : Str} (h : z.length ≤ sizeLine) (q : Q (.int z.length) H) : rLenX [.str z] H Q := ⟨z, rfl, h, q⟩
theorem l_listL {a : Addr} {xs : List V} (h : SqL K H a xs) (q : LNew (.lst xs) H Q) : rListQ K [.ref a] H Q := ⟨a, _, rfl, .inl h, q⟩
theorem l_listT {a : Addr} {xs : List V} (h : SqT K H a xs) (q : LNew (.lst xs) H Q) : rListQ K [.ref a] H Q := ⟨a, _, rfl, .inr h, q⟩
end

/-! ### the end -/
theorem fn_out {P : Program} {w : World} {K : PySem.W.Frag} {mg : Str → Option Value} {base : Heap} {k : Nat} {f : Addr} {fd : FuncData} {ps : List Str} {sp : Sp} (F : FnOk P w K mg base (L2N.CX P w) k f fd ps sp)
    (h : ∀ vs H Q E, sp vs H Q E → sp vs H Q fun _ _ _ => False) : FnOk P w K mg base CX0 k f fd ps sp := by
  refine ⟨F.len, fun A outer s H args us vs Q E hr e0 hb r hs => ?_⟩
  refine codeAny_mono (F.run A outer s H args us vs Q (fun _ _ _ => False) hr e0 hb r (h _ _ _ _ hs)) fun res s' hq => ?_
  match res, hq with
  | .error e, hq =>
    obtain ⟨_, _, _, _, _, _, _, _, _, _, _, _, z⟩ := hq
    exact z.elim
  | .ok v, hq => cases v <;> exact hq
end LW
namespace LW
open PySem PySem.Spec PyProof.Rows L2
/-! ### items by their places -/
theorem atI_of {α : Type} {xs : List α} {n : Int} {v : α} (h : 0 ≤ n) (e : xs[n.toNat]? = some v) : atI xs n = some v := by
  obtain ⟨m, rfl⟩ := Int.eq_ofNat_of_zero_le h
  have hm : m < xs.length := by
    rcases Nat.lt_or_ge m xs.length with z | z
    · exact z
    · rw [show ((m : Int)).toNat = m from rfl, List.getElem?_eq_none z] at e
      cases e
  unfold atI ixN
  rw [if_pos h, if_pos (by omega)]
  exact e
theorem atI_map {α : Type} {f : α → V} {xs : List α} {n : Int} {d : α} (h : 0 ≤ n) (l : n < xs.length) : atI (xs.map f) n = some (f (xs.getD n.toNat d)) := by
  refine atI_of h ?_
  have hm : n.toNat < xs.length := by omega
  rw [List.getElem?_map, List.getD_eq_getElem?_getD, List.getElem?_eq_getElem hm]
  rfl
end LW

set_option maxHeartbeats 4000000
namespace LW
open PySem PySem.Spec PyProof.Rows L2
/-! ### the suite that tells a refusal by its class's word -/
theorem l_catch {K : PySem.W.Frag} {iw ie : Nat} {words : List Str} {D0 : Str} {spo : SpE} {a : Addr} {c : Value} {d : Option Addr} {as : TA} {nx bk ct : St → Hp → Prop} {rt : VK} {σ : St} {H : Hp}
    (hm : D0 ∈ words) (ok : ∀ x ∈ words, PyData.strOk x = true) (hz : words.length ≤ 1000) (has : ∀ S : List V → Hp → Prop, S (words.map V.str) H → as σ H S) (he : σ[ie]? = some (some (.ref a))) (hne : iw ≠ ie) (hl : iw < σ.length)
    (hsp : ∀ word H (Q : VK), PyData.strOk word = true → (∀ H', Ext [] H H' → Q (.bl (decide (D0 = word))) H') → spo a c d [.ref a, .str word] H Q E0) (q : ∀ H', Ext [] H H' → rt (.str D0) H') :
    tForN (iList K (tLst as)) (gName iw) (tIfS (tB (tCallE spo a c d (tCons (tVar ie) (tCons (tVar iw) tNil)))) (tRet (tVar iw)) tNext) ⟨nx, rt, bk, ct⟩ σ H := by
  unfold tForN iList
  refine k_lst (has _ (l_lst (by rw [List.length_map]; exact hz) (l_new (Run.start (F := []) Live.nil) fun l H1 f1 f2 f3 r1 h1 s1 => ?_)))
  refine ⟨l, rfl, ⟨_, SqL.of h1⟩, ?_⟩
  refine forN_list (K := K) (a := l) (xs := words.map V.str) (fun i σ' H' => (∀ j, j < i → words[j]? ≠ some D0) ∧ σ'[ie]? = some (some (.ref a)) ∧ σ'.length = σ.length ∧ Ext [] H1 H') ⟨fun j h => by omega, he, rfl, Ext.refl _ _⟩
    (fun i σ' H' p => SqL.of (p.2.2.2.keep _ _ h1 (by simp))) (fun i σ' H' p => ?_) (fun i x σ' H' ex p => ?_)
  · rw [List.length_map]
    rcases Nat.lt_or_ge i words.length with z | z
    · exact z
    · obtain ⟨j, hj, e⟩ := List.mem_iff_getElem.mp hm
      exact absurd (show words[j]? = some D0 by rw [List.getElem?_eq_getElem hj, e]) (p.1 j (by omega))
  · obtain ⟨p1, p2, p3, p4⟩ := p
    rw [List.getElem?_map] at ex
    cases ew : words[i]? with
    | none => rw [ew] at ex; cases ex
    | some wd =>
      rw [ew] at ex
      obtain rfl : V.str wd = x := Option.some.inj ex
      have okw : PyData.strOk wd = true := ok wd (List.mem_of_getElem? ew)
      refine g_name (k_ifS (k_B (k_callE (k_cons (k_var (v := .ref a) (by rw [List.getElem?_set_ne hne]; exact p2) (k_cons (k_var (v := .str wd) (by rw [List.getElem?_set_self (by omega)]) (k_nil ?_))))))))
      refine hsp wd H' _ okw fun H2 e2 => k_bl (k_ifd (fun cc => ?_) fun cc => ?_)
      · refine k_ret (k_var (v := .str wd) (by rw [List.getElem?_set_self (by omega)]) ?_)
        subst cc
        exact q _ (Ext.trans r1.ext (Ext.trans p4 e2))
      · refine k_next ⟨fun j hj e => ?_, by rw [List.getElem?_set_ne hne]; exact p2, by rw [List.length_set]; exact p3, p4.trans e2⟩
        rcases Nat.lt_or_ge j i with z | z
        · exact p1 j z e
        · have : j = i := by omega
          subst this
          rw [ew] at e
          exact cc (Option.some.inj e).symm
end LW
namespace LW
open PySem PySem.Spec PyProof.Rows L2
theorem l_wAs {K : PySem.W.Frag} {c : Value} {i : Nat} {ts : Addr → Value → Option Addr → TS} {Wout : WX} {nx bk ct : St → Hp → Prop} {rt : VK} {σ : St} {cls : Value} {d : Option Addr} {H : Hp} (h : PySem.W.exmOne K cls c = some true)
    (q : ∀ a, H a = none → ts a cls d ⟨fun σ' H' => nx (σ'.set i none) H', rt, fun σ' H' => bk (σ'.set i none) H', fun σ' H' => ct (σ'.set i none) H'⟩ (σ.set i (some (.ref a))) H) : WE (wAs K c i ts Wout ⟨nx, rt, bk, ct⟩) σ cls d H :=
  ⟨true, h, fun _ => q, fun z => by cases z⟩
end LW
namespace LW
open PySem PySem.Spec PyProof.Rows L2
section
variable {K : PySem.W.Frag} {nx bk ct : St → Hp → Prop} {rt : VK} {σ : St} {H : Hp} {Q : VK} {ta : TE}
theorem k_ntt {A B : Prop} (h : B) : if (!true) = true then A else B := h
theorem k_ntf {A B : Prop} (h : A) : if (!false) = true then A else B := h
theorem k_clear (h : ta σ H fun x H1 => tyV K "list" x H1 ∧ rClear x [] H1 Q) : tBM0 K "list" rClear ta σ H Q := h
theorem l_clear {F : List Addr} {H0 : Hp} {a : Addr} {xs : List V} (r : Run F H0 H) (h : H a = some (.lst xs)) (w : a ∈ F ∨ H0 a = none)
    (q : ∀ H', Run F H0 H' → H' a = some (.lst []) → (∀ b, b ≠ a → H' b = H b) → Q .non H') : rClear (.ref a) [] H Q :=
  ⟨a, xs, rfl, rfl, h, q _ (r.wr h (by intro _ z; cases z) w) upd_same fun b n => upd_ne n⟩
end
end LW
namespace LW
open PySem PySem.Spec PyProof.Rows L2
theorem Run.seq {K : PySem.W.Frag} {H0 H : Hp} {a : Addr} {xs : List V} (r : Run [] H0 H) (h : SqL K H0 a xs) : SqL K H a xs := r.ext.seqL (by simp) h
/-- several ways that go on alike -/
theorem lets {α β : Type} {p : Prop} (G : α → β → Prop) (Pre : α → β → Prop) (main : (∀ n h, Pre n h → G n h) → p) (key : ∀ n h, Pre n h → G n h) : p := main key
end LW

set_option maxHeartbeats 4000000
namespace LW
open PySem PySem.Spec PyProof.Rows L2
def top (i : Nat) : Stmt := PySem.Challenge.pw_leasewatch_k01_leases_by_themselves.main.body.getD i (.Pass ⟨0, 0, 0, 0⟩)
abbrev s_Leases_init : Stmt := inClass (top 10) 0
abbrev s_Leases_grant : Stmt := inClass (top 10) 1
abbrev s_Leases_need : Stmt := inClass (top 10) 2
abbrev s_Leases_renew : Stmt := inClass (top 10) 3
abbrev s_Leases_drop : Stmt := inClass (top 10) 4
abbrev s_Leases_due : Stmt := inClass (top 10) 5
abbrev s_l_whole : Stmt := top 12
abbrev s_l_cell_at : Stmt := top 13
abbrev s_l_ticks : Stmt := top 14
abbrev s_l_only : Stmt := top 15
abbrev s_l_told : Stmt := top 16
abbrev s_l_due : Stmt := top 17
abbrev s_l_ending : Stmt := top 18
abbrev s_law : Stmt := top 19
/-- what the top has written -/
structure FX (K : PySem.W.Frag) (mg : Str → Option Value) : Prop where
  g_LeaseError : mg "LeaseError" = some (.ref (He.ga K "LeaseError"))
  g_BadTicks : mg "BadTicks" = some (.ref (He.ga K "BadTicks"))
  g_NoLease : mg "NoLease" = some (.ref (He.ga K "NoLease"))
  g_NoKey : mg "NoKey" = some (.ref (He.ga K "NoKey"))
  g_Held : mg "Held" = some (.ref (He.ga K "Held"))
  g_NoStart : mg "NoStart" = some (.ref (He.ga K "NoStart"))
  g_NoWatch : mg "NoWatch" = some (.ref (He.ga K "NoWatch"))
  g_Leases : mg "Leases" = some (.ref (He.ga K "Leases"))
  g_l_whole : mg "_law_whole" = some (.ref (He.ga K "_law_whole"))
  g_l_cell_at : mg "_law_cell_at" = some (.ref (He.ga K "_law_cell_at"))
  g_l_ticks : mg "_law_ticks" = some (.ref (He.ga K "_law_ticks"))
  g_l_only : mg "_law_only" = some (.ref (He.ga K "_law_only"))
  g_l_told : mg "_law_told" = some (.ref (He.ga K "_law_told"))
  g_l_due : mg "_law_due" = some (.ref (He.ga K "_law_due"))
  g_l_ending : mg "_law_ending" = some (.ref (He.ga K "_law_ending"))
  g_law : mg "law" = some (.ref (He.ga K "law"))
  f_isinstance : mg "isinstance" = none
  f_len : mg "len" = none
  f_sorted : mg "sorted" = none
  f_range : mg "range" = none
  f_int : mg "int" = none
  f_bool : mg "bool" = none
  f_str : mg "str" = none
  f_list : mg "list" = none
  f_tuple : mg "tuple" = none
  f_ValueError : mg "ValueError" = none
  f_min : mg "min" = none
  f_max : mg "max" = none
  f_abs : mg "abs" = none
  f_zip : mg "zip" = none
  i_MOST_TICKS : ∃ t, mg "MOST_TICKS" = some (.int 1000000 t)
  x_LeaseError : PySem.W.excIn K (He.ga K "LeaseError") He.veBase "ValueError.__new__" = true ∧ PySem.W.keepIn K (.ref (He.ga K "LeaseError")) = true ∧ PySem.W.subIn K (.ref (He.ga K "LeaseError")) (.type "BaseException") = some true ∧ PySem.W.typeIn K (.ref (He.ga K "LeaseError")) = some (.type "type")
  x_BadTicks : PySem.W.excIn K (He.ga K "BadTicks") He.veBase "ValueError.__new__" = true ∧ PySem.W.keepIn K (.ref (He.ga K "BadTicks")) = true ∧ PySem.W.subIn K (.ref (He.ga K "BadTicks")) (.type "BaseException") = some true ∧ PySem.W.typeIn K (.ref (He.ga K "BadTicks")) = some (.type "type")
  e_BadTicks : PySem.W.exmOne K (.ref (He.ga K "BadTicks")) (.ref (He.ga K "LeaseError")) = some true
  x_NoLease : PySem.W.excIn K (He.ga K "NoLease") He.veBase "ValueError.__new__" = true ∧ PySem.W.keepIn K (.ref (He.ga K "NoLease")) = true ∧ PySem.W.subIn K (.ref (He.ga K "NoLease")) (.type "BaseException") = some true ∧ PySem.W.typeIn K (.ref (He.ga K "NoLease")) = some (.type "type")
  e_NoLease : PySem.W.exmOne K (.ref (He.ga K "NoLease")) (.ref (He.ga K "LeaseError")) = some true
  x_NoKey : PySem.W.excIn K (He.ga K "NoKey") He.veBase "ValueError.__new__" = true ∧ PySem.W.keepIn K (.ref (He.ga K "NoKey")) = true ∧ PySem.W.subIn K (.ref (He.ga K "NoKey")) (.type "BaseException") = some true ∧ PySem.W.typeIn K (.ref (He.ga K "NoKey")) = some (.type "type")
  e_NoKey : PySem.W.exmOne K (.ref (He.ga K "NoKey")) (.ref (He.ga K "LeaseError")) = some true
  x_Held : PySem.W.excIn K (He.ga K "Held") He.veBase "ValueError.__new__" = true ∧ PySem.W.keepIn K (.ref (He.ga K "Held")) = true ∧ PySem.W.subIn K (.ref (He.ga K "Held")) (.type "BaseException") = some true ∧ PySem.W.typeIn K (.ref (He.ga K "Held")) = some (.type "type")
  e_Held : PySem.W.exmOne K (.ref (He.ga K "Held")) (.ref (He.ga K "LeaseError")) = some true
  x_NoStart : PySem.W.excIn K (He.ga K "NoStart") He.veBase "ValueError.__new__" = true ∧ PySem.W.keepIn K (.ref (He.ga K "NoStart")) = true ∧ PySem.W.subIn K (.ref (He.ga K "NoStart")) (.type "BaseException") = some true ∧ PySem.W.typeIn K (.ref (He.ga K "NoStart")) = some (.type "type")
  e_NoStart : PySem.W.exmOne K (.ref (He.ga K "NoStart")) (.ref (He.ga K "LeaseError")) = some true
  x_NoWatch : PySem.W.excIn K (He.ga K "NoWatch") He.veBase "ValueError.__new__" = true ∧ PySem.W.keepIn K (.ref (He.ga K "NoWatch")) = true ∧ PySem.W.subIn K (.ref (He.ga K "NoWatch")) (.type "BaseException") = some true ∧ PySem.W.typeIn K (.ref (He.ga K "NoWatch")) = some (.type "type")
  e_NoWatch : PySem.W.exmOne K (.ref (He.ga K "NoWatch")) (.ref (He.ga K "LeaseError")) = some true
  xk : ExcK (["BadTicks", "NoLease", "NoKey", "Held", "NoStart", "NoWatch"] : List Str) K
  cl_Leases : Cls K (He.ga K "Leases")
  mk_Leases : Mk K (He.ga K "Leases") (He.ma K (He.ga K "Leases") "__init__")
  na_Leases_given : NoAttr K (He.ga K "Leases") "given"
  na_Leases_spans : NoAttr K (He.ga K "Leases") "spans"
  na_Leases_ends : NoAttr K (He.ga K "Leases") "ends"
  me_Leases_grant : Meth K (He.ga K "Leases") "grant" (He.ma K (He.ga K "Leases") "grant")
  me_Leases_need : Meth K (He.ga K "Leases") "need" (He.ma K (He.ga K "Leases") "need")
  me_Leases_renew : Meth K (He.ga K "Leases") "renew" (He.ma K (He.ga K "Leases") "renew")
  me_Leases_drop : Meth K (He.ga K "Leases") "drop" (He.ma K (He.ga K "Leases") "drop")
  me_Leases_due : Meth K (He.ga K "Leases") "due" (He.ma K (He.ga K "Leases") "due")
  F_Leases_init : FunD K "__init__" "Leases.__init__" (defArgs s_Leases_init) (defBody s_Leases_init) (defScope s_Leases_init) [] [] (He.ma K (He.ga K "Leases") "__init__") (fdAt K ("Leases", some "__init__"))
  F_Leases_grant : FunD K "grant" "Leases.grant" (defArgs s_Leases_grant) (defBody s_Leases_grant) (defScope s_Leases_grant) [] [] (He.ma K (He.ga K "Leases") "grant") (fdAt K ("Leases", some "grant"))
  F_Leases_need : FunD K "need" "Leases.need" (defArgs s_Leases_need) (defBody s_Leases_need) (defScope s_Leases_need) [] [] (He.ma K (He.ga K "Leases") "need") (fdAt K ("Leases", some "need"))
  F_Leases_renew : FunD K "renew" "Leases.renew" (defArgs s_Leases_renew) (defBody s_Leases_renew) (defScope s_Leases_renew) [] [] (He.ma K (He.ga K "Leases") "renew") (fdAt K ("Leases", some "renew"))
  F_Leases_drop : FunD K "drop" "Leases.drop" (defArgs s_Leases_drop) (defBody s_Leases_drop) (defScope s_Leases_drop) [] [] (He.ma K (He.ga K "Leases") "drop") (fdAt K ("Leases", some "drop"))
  F_Leases_due : FunD K "due" "Leases.due" (defArgs s_Leases_due) (defBody s_Leases_due) (defScope s_Leases_due) [] [] (He.ma K (He.ga K "Leases") "due") (fdAt K ("Leases", some "due"))
  F_l_whole : FunD K "_law_whole" "_law_whole" (defArgs s_l_whole) (defBody s_l_whole) (defScope s_l_whole) [] [] (He.ga K "_law_whole") (fdAt K ("_law_whole", none))
  F_l_cell_at : FunD K "_law_cell_at" "_law_cell_at" (defArgs s_l_cell_at) (defBody s_l_cell_at) (defScope s_l_cell_at) [] [] (He.ga K "_law_cell_at") (fdAt K ("_law_cell_at", none))
  F_l_ticks : FunD K "_law_ticks" "_law_ticks" (defArgs s_l_ticks) (defBody s_l_ticks) (defScope s_l_ticks) [] [] (He.ga K "_law_ticks") (fdAt K ("_law_ticks", none))
  F_l_only : FunD K "_law_only" "_law_only" (defArgs s_l_only) (defBody s_l_only) (defScope s_l_only) [] [] (He.ga K "_law_only") (fdAt K ("_law_only", none))
  F_l_told : FunD K "_law_told" "_law_told" (defArgs s_l_told) (defBody s_l_told) (defScope s_l_told) [] [] (He.ga K "_law_told") (fdAt K ("_law_told", none))
  F_l_due : FunD K "_law_due" "_law_due" (defArgs s_l_due) (defBody s_l_due) (defScope s_l_due) [] [] (He.ga K "_law_due") (fdAt K ("_law_due", none))
  F_l_ending : FunD K "_law_ending" "_law_ending" (defArgs s_l_ending) (defBody s_l_ending) (defScope s_l_ending) [] [] (He.ga K "_law_ending") (fdAt K ("_law_ending", none))
  F_law : FunD K "law" "law" (defArgs s_law) (defBody s_law) (defScope s_law) [] [] (He.ga K "law") (fdAt K ("law", none))
section
variable {K : PySem.W.Frag} {mg : Str → Option Value}
theorem FX.b_Leases_init (T : FX K mg) : Binds K (fdAt K ("Leases", some "__init__")) ["self"] [] := T.F_Leases_init.bindsN fun _ _ _ _ _ _ us hl => match us, hl with | [_], _ => rfl
theorem FX.b_Leases_grant (T : FX K mg) : Binds K (fdAt K ("Leases", some "grant")) ["self", "now", "ticks"] [] := T.F_Leases_grant.bindsN fun _ _ _ _ _ _ us hl => match us, hl with | [_, _, _], _ => rfl
theorem FX.b_Leases_need (T : FX K mg) : Binds K (fdAt K ("Leases", some "need")) ["self", "lease"] [] := T.F_Leases_need.bindsN fun _ _ _ _ _ _ us hl => match us, hl with | [_, _], _ => rfl
theorem FX.b_Leases_renew (T : FX K mg) : Binds K (fdAt K ("Leases", some "renew")) ["self", "now", "lease"] [] := T.F_Leases_renew.bindsN fun _ _ _ _ _ _ us hl => match us, hl with | [_, _, _], _ => rfl
theorem FX.b_Leases_drop (T : FX K mg) : Binds K (fdAt K ("Leases", some "drop")) ["self", "lease"] [] := T.F_Leases_drop.bindsN fun _ _ _ _ _ _ us hl => match us, hl with | [_, _], _ => rfl
theorem FX.b_Leases_due (T : FX K mg) : Binds K (fdAt K ("Leases", some "due")) ["self", "until"] [] := T.F_Leases_due.bindsN fun _ _ _ _ _ _ us hl => match us, hl with | [_, _], _ => rfl
theorem FX.k_l_whole (T : FX K mg) : PySem.W.keepIn K (.ref (He.ga K "_law_whole")) = true := T.F_l_whole.kp
theorem FX.b_l_whole (T : FX K mg) : Binds K (fdAt K ("_law_whole", none)) ["_law_found"] [] := T.F_l_whole.bindsN fun _ _ _ _ _ _ us hl => match us, hl with | [_], _ => rfl
theorem FX.k_l_cell_at (T : FX K mg) : PySem.W.keepIn K (.ref (He.ga K "_law_cell_at")) = true := T.F_l_cell_at.kp
theorem FX.b_l_cell_at (T : FX K mg) : Binds K (fdAt K ("_law_cell_at", none)) ["_law_script", "_law_k"] [] := T.F_l_cell_at.bindsN fun _ _ _ _ _ _ us hl => match us, hl with | [_, _], _ => rfl
theorem FX.k_l_ticks (T : FX K mg) : PySem.W.keepIn K (.ref (He.ga K "_law_ticks")) = true := T.F_l_ticks.kp
theorem FX.b_l_ticks (T : FX K mg) : Binds K (fdAt K ("_law_ticks", none)) ["_law_cell", "_law_more"] [] := T.F_l_ticks.bindsN fun _ _ _ _ _ _ us hl => match us, hl with | [_, _], _ => rfl
theorem FX.k_l_only (T : FX K mg) : PySem.W.keepIn K (.ref (He.ga K "_law_only")) = true := T.F_l_only.kp
theorem FX.b_l_only (T : FX K mg) : Binds K (fdAt K ("_law_only", none)) ["_law_error", "_law_word"] [] := T.F_l_only.bindsN fun _ _ _ _ _ _ us hl => match us, hl with | [_, _], _ => rfl
theorem FX.k_l_told (T : FX K mg) : PySem.W.keepIn K (.ref (He.ga K "_law_told")) = true := T.F_l_told.kp
theorem FX.b_l_told (T : FX K mg) : Binds K (fdAt K ("_law_told", none)) ["_law_lot", "_law_word", "_law_now", "_law_number"] [] := T.F_l_told.bindsN fun _ _ _ _ _ _ us hl => match us, hl with | [_, _, _, _], _ => rfl
theorem FX.k_l_due (T : FX K mg) : PySem.W.keepIn K (.ref (He.ga K "_law_due")) = true := T.F_l_due.kp
theorem FX.b_l_due (T : FX K mg) : Binds K (fdAt K ("_law_due", none)) ["_law_lot", "_law_word", "_law_now", "_law_number"] [] := T.F_l_due.bindsN fun _ _ _ _ _ _ us hl => match us, hl with | [_, _, _, _], _ => rfl
theorem FX.k_l_ending (T : FX K mg) : PySem.W.keepIn K (.ref (He.ga K "_law_ending")) = true := T.F_l_ending.kp
theorem FX.b_l_ending (T : FX K mg) : Binds K (fdAt K ("_law_ending", none)) ["_law_found", "_law_lot", "_law_until"] [] := T.F_l_ending.bindsN fun _ _ _ _ _ _ us hl => match us, hl with | [_, _, _], _ => rfl
theorem FX.k_law (T : FX K mg) : PySem.W.keepIn K (.ref (He.ga K "law")) = true := T.F_law.kp
theorem FX.b_law (T : FX K mg) : Binds K (fdAt K ("law", none)) ["_law_script"] [] := T.F_law.bindsN fun _ _ _ _ _ _ us hl => match us, hl with | [_], _ => rfl
end
def fl_Leases (x0 x1 x2 : V) : List (Str × V) := [("given", x0), ("spans", x1), ("ends", x2)]
section
variable {x0 x1 x2 y : V}
theorem lk_Leases_given : (fl_Leases x0 x1 x2).lookup ("given" : Str) = some x0 := by kernel_rfl
theorem pt_Leases_given : putF "given" y (fl_Leases x0 x1 x2) = fl_Leases y x1 x2 := by kernel_rfl
theorem lk_Leases_spans : (fl_Leases x0 x1 x2).lookup ("spans" : Str) = some x1 := by kernel_rfl
theorem pt_Leases_spans : putF "spans" y (fl_Leases x0 x1 x2) = fl_Leases x0 y x2 := by kernel_rfl
theorem lk_Leases_ends : (fl_Leases x0 x1 x2).lookup ("ends" : Str) = some x2 := by kernel_rfl
theorem pt_Leases_ends : putF "ends" y (fl_Leases x0 x1 x2) = fl_Leases x0 x1 y := by kernel_rfl
theorem pi_Leases_0 : putF "given" x0 [] = ([("given", x0)] : List (Str × V)) := by kernel_rfl
theorem pi_Leases_1 : putF "spans" x1 ([("given", x0)] : List (Str × V)) = ([("given", x0), ("spans", x1)] : List (Str × V)) := by kernel_rfl
theorem pi_Leases_2 : putF "ends" x2 ([("given", x0), ("spans", x1)] : List (Str × V)) = (fl_Leases x0 x1 x2) := by kernel_rfl
theorem lz_Leases : (fl_Leases x0 x1 x2).length < 1000 := by show 3 < 1000; decide
theorem lm_Leases_grant : (fl_Leases x0 x1 x2).lookup ("grant" : Str) = none := by kernel_rfl
theorem lm_Leases_need : (fl_Leases x0 x1 x2).lookup ("need" : Str) = none := by kernel_rfl
theorem lm_Leases_renew : (fl_Leases x0 x1 x2).lookup ("renew" : Str) = none := by kernel_rfl
theorem lm_Leases_drop : (fl_Leases x0 x1 x2).lookup ("drop" : Str) = none := by kernel_rfl
theorem lm_Leases_due : (fl_Leases x0 x1 x2).lookup ("due" : Str) = none := by kernel_rfl
end
def rc_mine (x0 x1 x2 : V) : List (Key × V) := [(Sum.inr "given", x0), (Sum.inr "ends", x1), (Sum.inr "told", x2)]
section
variable {x0 x1 x2 y : V}
theorem rv_mine_given : valV (rc_mine x0 x1 x2) (Sum.inr "given" : Key) = some x0 := by kernel_rfl
theorem rp_mine_given : putK (rc_mine x0 x1 x2) (Sum.inr "given" : Key) y = rc_mine y x1 x2 := by kernel_rfl
theorem rv_mine_ends : valV (rc_mine x0 x1 x2) (Sum.inr "ends" : Key) = some x1 := by kernel_rfl
theorem rp_mine_ends : putK (rc_mine x0 x1 x2) (Sum.inr "ends" : Key) y = rc_mine x0 y x2 := by kernel_rfl
theorem rv_mine_told : valV (rc_mine x0 x1 x2) (Sum.inr "told" : Key) = some x2 := by kernel_rfl
theorem rp_mine_told : putK (rc_mine x0 x1 x2) (Sum.inr "told" : Key) y = rc_mine x0 x1 y := by kernel_rfl
theorem rm_mine : mergeK [] (([(V.str "given", x0), (V.str "ends", x1), (V.str "told", x2)] : List (V × V)).map keyOf) = (rc_mine x0 x1 x2) := by kernel_rfl
theorem rl_mine : (rc_mine x0 x1 x2).length < sizeLine := by show 3 < sizeLine; decide
end
end LW

set_option maxHeartbeats 4000000
namespace LW
open PySem PySem.Spec PyProof.Rows L2
local macro_rules | `(tactic| wtm_at "vk") => `(tactic| first
  | assumption
  | with_reducible exact rv_mine_given
  | with_reducible exact rv_mine_ends
  | with_reducible exact rv_mine_told
  | exact valV_iv (by assumption)
  | fail)
local macro_rules | `(tactic| wtm_at "pk") => `(tactic| first
  | with_reducible exact putK_iv
  | with_reducible exact dropK_ik
  | with_reducible exact dropK_sk
  | with_reducible exact rp_mine_given
  | with_reducible exact rp_mine_ends
  | with_reducible exact rp_mine_told
  | assumption
  | fail)
local macro_rules | `(tactic| wtm_at "rm") => `(tactic| first
  | with_reducible exact rm_mine
  | exact rfl
  | fail)
local macro_rules | `(tactic| wtm_at "rl") => `(tactic| first
  | with_reducible exact rl_mine
  | with_reducible assumption
  | fail)
local macro_rules | `(tactic| wtm_at "lk") => `(tactic| with_reducible first
  | exact lk_Leases_given
  | exact lk_Leases_spans
  | exact lk_Leases_ends
  | fail)
local macro_rules | `(tactic| wtm_at "lm") => `(tactic| with_reducible first
  | exact lm_Leases_grant
  | exact lm_Leases_need
  | exact lm_Leases_renew
  | exact lm_Leases_drop
  | exact lm_Leases_due
  | fail)
local macro_rules | `(tactic| wtm_at "pt") => `(tactic| with_reducible first
  | exact pt_Leases_given
  | exact pt_Leases_spans
  | exact pt_Leases_ends
  | exact pi_Leases_0
  | exact pi_Leases_1
  | exact pi_Leases_2
  | fail)
local macro_rules | `(tactic| wtm_at "lz") => `(tactic| with_reducible first
  | exact lz_Leases
  | (simp only [List.length_cons, List.length_nil]; decide)
  | exact (by decide)
  | fail)
local macro_rules | `(tactic| wtm_at "hf") => `(tactic| first
  | assumption
  | (refine' hf_s ?hs ?hx; (case hs => assumption); (case hx => wtm_at "hf"))
  | (refine' hf_n ?hs ?hx ?ne; (case hs => assumption); (case hx => wtm_at "hf"); (case ne => wtm_at "ne"))
  | (refine' hf_e ?hs ?hx ?hy; (case hs => assumption); (case hx => wtm_at "hf"); (case hy => wtm_at "nin"))
  | fail)
local macro_rules | `(tactic| wtm_at "ne") => `(tactic| first
  | assumption
  | (apply Ne.symm; assumption)
  | (refine' ne_of_none ?hx ?hy; (case hy => assumption); (case hx => wtm_at "hf"))
  | (refine' (ne_of_none ?hx ?hy).symm; (case hy => assumption); (case hx => wtm_at "hf"))
  | (refine' ne_of ?hx ?hy ?hz; (case hx => assumption); (case hy => assumption); (case hz => intro z; cases z))
  | fail)
local macro_rules | `(tactic| wtm_at "nin") => `(tactic| first
  | assumption
  | exact notin_nil
  | (refine' notin_cons ?hx ?hy; (case hx => wtm_at "ne"); (case hy => wtm_at "nin"))
  | fail)
local macro_rules | `(tactic| wtm_at "mem") => `(tactic| first
  | assumption
  | exact List.mem_cons_self
  | (refine' List.mem_cons_of_mem _ ?hx; (case hx => wtm_at "mem"))
  | fail)
local macro_rules | `(tactic| wtm_at "wr") => `(tactic| first
  | exact Or.inr (by assumption)
  | exact Or.inl (by wtm_at "mem")
  | fail)
local macro_rules | `(tactic| wtm_at "lv") => `(tactic| first
  | assumption
  | exact Live.nil
  | (refine' Live.cons ?hx ?hy; (case hx => wtm_at "hf"); (case hy => wtm_at "lv"))
  | fail)
local macro_rules | `(tactic| wtm_at "sq") => `(tactic| first
  | assumption
  | (refine' Run.seq ?hx ?hy; (case hx => assumption); (case hy => assumption))
  | (refine' SqL.of ?hx; (case hx => wtm_at "hf"))
  | (refine' Same.seq ?hx ?hy; (case hx => assumption); (case hy => wtm_at "sq"))
  | (refine' Ext.seqL ?hx ?hz ?hy; (case hx => assumption); (case hy => wtm_at "sq"); (case hz => wtm_at "nin"))
  | fail)
local macro_rules | `(tactic| wtm_at "st") => `(tactic| first
  | assumption
  | (refine' SqT.of ?hx; (case hx => wtm_at "hf"))
  | fail)
local macro_rules | `(tactic| wtm_at "ix") => `(tactic| first
  | assumption
  | exact rfl
  | fail)
local macro_rules | `(tactic| wtm_at "sz") => `(tactic| first
  | wtm_at "rl"
  | with_reducible assumption
  | (rw [ik_len]; wtm_at "sz")
  | (rw [sk_len]; wtm_at "sz")
  | exact small1000 (by assumption)
  | exact small1000 (by omega)
  | exact small1000 (by simp only [List.length_cons, List.length_nil, List.length_append, List.length_map]; omega)
  | fail)
local macro_rules | `(tactic| wtm_at "k") => `(tactic| first
  | with_reducible refine k_seq ?_
  | with_reducible refine k_next ?_
  | with_reducible refine k_asg ?_
  | with_reducible refine k_ret ?_
  | with_reducible refine k_retN ?_
  | with_reducible refine k_drop ?_
  | with_reducible refine k_ifS ?_
  | ((with_reducible refine' k_var ?hx ?_); (case hx => exact rfl))
  | with_reducible refine k_c ?_
  | with_reducible refine k_negc ?_
  | with_reducible refine k_neg ?_
  | with_reducible refine l_neg ?_
  | with_reducible refine k_op ?_
  | with_reducible refine k_cb ?_
  | with_reducible refine k_nil ?_
  | with_reducible refine k_cons ?_
  | with_reducible refine k_test ?_
  | with_reducible refine k_B ?_
  | with_reducible refine k_not ?_
  | with_reducible refine k_and ?_
  | with_reducible refine k_or ?_
  | with_reducible refine k_notV ?_
  | with_reducible refine k_andV ?_
  | with_reducible refine k_orV ?_
  | with_reducible refine k_bl ?_
  | with_reducible refine k_add ?_
  | with_reducible refine k_sub ?_
  | ((with_reducible refine' k_mod ?hx ?_); (case hx => first | decide | omega))
  | ((with_reducible refine' k_div ?hx ?_); (case hx => exact ⟨by decide, by decide⟩))
  | ((with_reducible refine' k_mul ?hx ?_); (case hx => first | exact Or.inl ⟨by decide, by decide⟩ | exact Or.inr ⟨by decide, by decide⟩ | exact Or.inl ⟨by omega, by omega⟩))
  | with_reducible refine k_p6 ?_
  | with_reducible refine k_p9 ?_
  | with_reducible refine k_p12 ?_
  | with_reducible refine k_p13 ?_
  | with_reducible refine k_p18 ?_
  | with_reducible refine k_p30 ?_
  | with_reducible refine k_lt ?_
  | with_reducible refine k_le ?_
  | with_reducible refine k_gt ?_
  | with_reducible refine k_ge ?_
  | with_reducible refine k_eq ?_
  | with_reducible refine k_ne ?_
  | with_reducible refine k_seqS ?_
  | with_reducible refine k_neS ?_
  | with_reducible refine k_neB ?_
  | with_reducible refine k_isN ?_
  | with_reducible refine k_noN ?_
  | with_reducible refine k_fld ?_
  | ((with_reducible refine' l_fld ?hx ?hy ?_); (case hx => wtm_at "hf"); (case hy => wtm_at "lk"))
  | with_reducible refine k_fldS ?_
  | ((with_reducible refine' l_fldS ?hr ?hx ?hz ?hy ?hw ?_); (case hr => assumption); (case hx => wtm_at "hf"); (case hy => wtm_at "pt"); (case hz => wtm_at "lz"); (case hw => wtm_at "wr"); intro _ _ _ _)
  | ((with_reducible refine' l_new ?hr ?_); (case hr => assumption); intro _ _ _ _ _ _ _ _)
  | with_reducible refine k_append ?_
  | ((with_reducible refine' l_tyL ?hx ?_); (case hx => wtm_at "hf"))
  | ((with_reducible refine' l_ins ?hx ?hy ?_); (case hx => wtm_at "hf"); (case hy => wtm_at "lm"))
  | with_reducible refine k_methS ?_
  | with_reducible refine k_meth0 ?_
  | with_reducible refine k_callS ?_
  | with_reducible refine k_callE ?_
  | with_reducible refine k_dget ?_
  | with_reducible refine k_din ?_
  | with_reducible refine k_dnotin ?_
  | with_reducible refine k_dput ?_
  | with_reducible refine k_dpop ?_
  | with_reducible refine k_dget2 ?_
  | with_reducible refine k_tup ?_
  | with_reducible refine k_lst ?_
  | with_reducible refine k_dnew ?_
  | ((with_reducible refine' l_tup ?hx ?_); (case hx => simp only [List.length_cons, List.length_nil]; decide))
  | ((with_reducible refine' l_lst ?hx ?_); (case hx => simp only [List.length_cons, List.length_nil]; decide))
  | ((with_reducible refine' l_isD ?hx ?_); (case hx => wtm_at "hf"))
  | ((with_reducible refine' l_dinI ?hx ?_); (case hx => wtm_at "hf"))
  | ((with_reducible refine' l_dinS ?hx ?_); (case hx => wtm_at "hf"))
  | ((with_reducible refine' l_dnotinI ?hx ?_); (case hx => wtm_at "hf"))
  | ((with_reducible refine' l_dnotinS ?hx ?_); (case hx => wtm_at "hf"))
  | ((with_reducible refine' l_dputI ?hr ?hx ?hz ?hy ?hw ?_); (case hr => assumption); (case hx => wtm_at "hf"); (case hy => wtm_at "pk"); (case hz => wtm_at "sz"); (case hw => wtm_at "wr"); intro _ _ _ _)
  | ((with_reducible refine' l_dputS ?hr ?hx ?hz ?hy ?hw ?_); (case hr => assumption); (case hx => wtm_at "hf"); (case hy => wtm_at "pk"); (case hz => wtm_at "sz"); (case hw => wtm_at "wr"); intro _ _ _ _)
  | ((with_reducible refine' l_dpopI ?hr ?hx ?hz ?hy ?hw ?_); (case hr => assumption); (case hx => wtm_at "hf"); (case hy => wtm_at "pk"); (case hz => wtm_at "vk"); (case hw => wtm_at "wr"); intro _ _ _ _)
  | ((with_reducible refine' l_dpopS ?hr ?hx ?hz ?hy ?hw ?_); (case hr => assumption); (case hx => wtm_at "hf"); (case hy => wtm_at "pk"); (case hz => wtm_at "vk"); (case hw => wtm_at "wr"); intro _ _ _ _)
  | ((with_reducible refine' l_dgetI ?hx ?hz ?_); (case hx => wtm_at "hf"); (case hz => wtm_at "vk"))
  | ((with_reducible refine' l_dgetS ?hx ?hz ?_); (case hx => wtm_at "hf"); (case hz => wtm_at "vk"))
  | ((with_reducible refine' l_dgetIF ?hx ?hz ?_); (case hx => wtm_at "hf"); (case hz => wtm_at "vk"))
  | ((with_reducible refine' l_dgetSF ?hx ?hz ?_); (case hx => wtm_at "hf"); (case hz => wtm_at "vk"))
  | ((with_reducible refine' k_disp ?hr ?_); (case hr => assumption); intro _ _ _ _ _ _ _ _)
  | with_reducible refine k_pcons ?_
  | with_reducible refine k_pnil ?_
  | ((with_reducible refine' l_disp ?hr ?hx ?hu ?hv ?hy ?hw ?_); (case hr => assumption); (case hx => wtm_at "hf"); (case hu => exact rfl); (case hv => simp only [List.length_map, List.length_cons, List.length_nil]; decide); (case hy => wtm_at "rm"); (case hw => wtm_at "wr"); intro _ _ _ _)
  | ((with_reducible refine' l_append ?hr ?hx ?hz ?hw ?_); (case hr => assumption); (case hx => wtm_at "hf"); (case hz => wtm_at "sz"); (case hw => wtm_at "wr"); intro _ _ _ _)
  | ((with_reducible refine' l_isEt ?hx ?_); (case hx => first | exact isD (ExcK.kit (by assumption) _ (by wtm_at "mem") _ (by wtm_at "mem")) | exact isC (ExcK.kit (by assumption) _ (by wtm_at "mem") _ (by wtm_at "mem")) (by decide)))
  | ((with_reducible refine' l_isEV ?hx ?_); (case hx => exact ExcK.kitV (by assumption) _ (by wtm_at "mem")))
  | ((with_reducible refine' l_isiI ?hx ?_); (case hx => first | rfl | assumption))
  | ((with_reducible refine' l_isiB ?hx ?_); (case hx => first | rfl | assumption))
  | ((with_reducible refine' l_isiS ?hx ?_); (case hx => first | rfl | assumption))
  | ((with_reducible refine' l_isiL ?hx ?_); (case hx => wtm_at "hf"))
  | ((with_reducible refine' l_isiT ?hx ?_); (case hx => wtm_at "hf"))
  | ((with_reducible refine' l_lenL ?hx ?_); (case hx => wtm_at "sq"))
  | ((with_reducible refine' l_lenT ?hx ?_); (case hx => wtm_at "st"))
  | ((with_reducible refine' l_ixL ?hx ?hy ?_); (case hx => wtm_at "sq"); (case hy => wtm_at "ix"))
  | ((with_reducible refine' l_ixT ?hx ?hy ?_); (case hx => wtm_at "st"); (case hy => wtm_at "ix"))
  | with_reducible refine k_for ?_
  | with_reducible refine k_rng1 ?_
  | with_reducible refine k_rng2 ?_
  | with_reducible refine k_rng3 ?_
  | with_reducible refine k_makeS ?_
  | ((with_reducible refine' l_make ?hr ?_); (case hr => assumption); intro _ _ _ _ _ _ _ _ _)
  | with_reducible refine k_ntt ?_
  | with_reducible refine k_ntf ?_
  | with_reducible refine k_clear ?_
  | ((with_reducible refine' l_clear ?hr ?hx ?hw ?_); (case hr => assumption); (case hx => wtm_at "hf"); (case hw => wtm_at "wr"); intro _ _ _ _)
  | with_reducible refine k_ift ?_
  | with_reducible refine k_iff ?_
  | with_reducible refine g_name ?_
  | fail)
section
variable {P : Program} {w : World} {K : PySem.W.Frag} {mg : Str → Option Value} {base : Heap}
def sp_l_whole (K : PySem.W.Frag) : Sp := fun vs H Q _ => ∃ v, vs = [v] ∧ simpV v = true ∧ Q (.bl (isI v)) H
theorem sc_l_whole : FnScope ["_law_found"] ["_law_found"] (defScope s_l_whole) := ⟨rfl, rfl, rfl, by decide +kernel, rfl, by decide +kernel, by decide +kernel⟩
theorem ok_l_whole (T : FX K mg) : FnOk P w K mg base (L2N.CX P w) 1 (He.ga K "_law_whole") (fdAt K ("_law_whole", none)) ["_law_found"] (sp_l_whole K) := by
  refine FunD.ok T.F_l_whole sc_l_whole (fun vs H Q E h => ?_) (fun cdv A outer s H vs Q E hr h => ?_)
  · (repeat (obtain ⟨_, h⟩ := h)); subst_vars; rfl
  · have hu := hu_of hr
    have hu64 := hr.units
    refine ⟨_,
      (pss_one
        (ps_ret (pe_and (pe_callB call_isi (by rfl) T.f_isinstance (by decide +kernel) (pa_cons (pv 0) (pa_cons (pe_bltT (n := "int") rfl T.f_int (by decide +kernel)) pa_nil))) (pe_one (pe_not (pe_callB call_isi (by rfl) T.f_isinstance (by decide +kernel) (pa_cons (pv 0) (pa_cons (pe_bltT (n := "bool") rfl T.f_bool (by decide +kernel)) pa_nil)))))))), ?_⟩
    obtain ⟨v, rfl, hv, k⟩ := h
    repeat wtm_at "k"
    cases v with
    | int i =>
      refine k_ift ?_
      repeat wtm_at "k"
      exact k
    | bl b =>
      refine k_ift ?_
      repeat wtm_at "k"
      exact k
    | non => exact k_iff k
    | str x => exact k_iff k
    | _ => cases hv
/-- script[k], or 0 -/
def cellD (ns : List Int) (k : Int) : Int := ns.getD k.toNat 0
def sp_l_cell_at (K : PySem.W.Frag) : Sp := fun vs H Q _ => ∃ a ns k, vs = [.ref a, .int k] ∧ 0 ≤ k ∧ SqL K H a (ns.map V.int) ∧ Q (.int (cellD ns k)) H
theorem sc_l_cell_at : FnScope ["_law_script", "_law_k"] ["_law_script", "_law_k"] (defScope s_l_cell_at) := ⟨rfl, rfl, rfl, by decide +kernel, rfl, by decide +kernel, by decide +kernel⟩
theorem ok_l_cell_at (T : FX K mg) : FnOk P w K mg base (L2N.CX P w) 1 (He.ga K "_law_cell_at") (fdAt K ("_law_cell_at", none)) ["_law_script", "_law_k"] (sp_l_cell_at K) := by
  refine FunD.ok T.F_l_cell_at sc_l_cell_at (fun vs H Q E h => ?_) (fun cdv A outer s H vs Q E hr h => ?_)
  · (repeat (obtain ⟨_, h⟩ := h)); subst_vars; rfl
  · have hu := hu_of hr
    have hu64 := hr.units
    refine ⟨_,
      (pss_cons
        (ps_if (pt_cmpR oIlt (pv 1) (pe_callB oLen (by rfl) T.f_len PySem.boot_len (pa_cons (pv 0) pa_nil)) (nomark _))
          (pss_one
            (ps_ret (pe_ix ix_list (pv 0) (pv 1) (fun _ _ => rfl))))
          pss_nil)
      (pss_one
        (ps_ret pe_int))), ?_⟩
    obtain ⟨a, ns, k, rfl, h0, hS, kk⟩ := h
    repeat wtm_at "k"
    rw [List.length_map]
    refine k_ifd (fun c => ?_) fun c => ?_
    · repeat wtm_at "k"
      refine l_ixL hS (atI_map (d := 0) (by omega) c) ?_
      exact kk
    · have e : cellD ns k = 0 := by
        unfold cellD
        rw [List.getD_eq_getElem?_getD, List.getElem?_eq_none (by omega)]
        rfl
      repeat wtm_at "k"
      rw [e] at kk
      exact kk
theorem k_whole {H : Hp} {Q : VK} {E : XK} {v : V} (h : simpV v = true) (q : Q (.bl (isI v)) H) : sp_l_whole K [v] H Q E := ⟨v, rfl, h, q⟩
theorem k_wholeI {H : Hp} {Q : VK} {E : XK} {i : Int} (q : Q (.bl true) H) : sp_l_whole K [.int i] H Q E := ⟨.int i, rfl, rfl, q⟩
theorem k_cell {H : Hp} {Q : VK} {E : XK} {a : Addr} {ns : List Int} {k : Int} (h0 : 0 ≤ k) (hS : SqL K H a (ns.map V.int)) (q : Q (.int (cellD ns k)) H) : sp_l_cell_at K [.ref a, .int k] H Q E := ⟨a, ns, k, rfl, h0, hS, q⟩
def ticksOf (c m : Int) : Int := if m % 4 = 0 then ([0, 1, 1000000, 1000001, -1, 1000000000, 1000000000000000000000000000000, -1000000000] : List Int).getD (c % 8).toNat 0 else if m % 4 = 1 then c % 1000003 else 1 + c % 6
def sp_l_ticks (K : PySem.W.Frag) : Sp := fun vs H Q _ => ∃ c m, vs = [.int c, .int m] ∧ ∀ H', Ext [] H H' → Q (.int (ticksOf c m)) H'
theorem sc_l_ticks : FnScope ["_law_cell", "_law_more"] ["_law_cell", "_law_more"] (defScope s_l_ticks) := ⟨rfl, rfl, rfl, by decide +kernel, rfl, by decide +kernel, by decide +kernel⟩
theorem ok_l_ticks (T : FX K mg) : FnOk P w K mg base (L2N.CX P w) 1 (He.ga K "_law_ticks") (fdAt K ("_law_ticks", none)) ["_law_cell", "_law_more"] (sp_l_ticks K) := by
  refine FunD.ok T.F_l_ticks sc_l_ticks (fun vs H Q E h => ?_) (fun cdv A outer s H vs Q E hr h => ?_)
  · (repeat (obtain ⟨_, h⟩ := h)); subst_vars; rfl
  · have hu := hu_of hr
    have hu64 := hr.units
    refine ⟨_,
      (pss_cons
        (ps_if (pt_cmpR oIeq (pe_op oImod (pv 1) pe_int) pe_int (nomark _))
          (pss_one
            (ps_ret (pe_ix ix_list (pe_lst (pa_cons pe_int (pa_cons pe_int (pa_cons pe_int (pa_cons pe_int (pa_cons (pe_un un_neg pe_int) (pa_cons (pe_op oIpow pe_int pe_int) (pa_cons (pe_op oIpow pe_int pe_int) (pa_cons (pe_un un_neg (pe_op oIpow pe_int pe_int)) pa_nil))))))))) (pe_op oImod (pv 0) pe_int) (fun _ _ => rfl))))
          pss_nil)
      (pss_cons
        (ps_if (pt_cmpR oIeq (pe_op oImod (pv 1) pe_int) pe_int (nomark _))
          (pss_one
            (ps_ret (pe_op oImod (pv 0) pe_int)))
          pss_nil)
      (pss_one
        (ps_ret (pe_op oIadd pe_int (pe_op oImod (pv 0) pe_int)))))), ?_⟩
    obtain ⟨c, m, rfl, kk⟩ := h
    unfold ticksOf at kk
    have R0 : Run [] H H := Run.start Live.nil
    repeat wtm_at "k"
    refine k_ifd (fun c0 => ?_) fun c0 => ?_
    · rw [if_pos c0] at kk
      repeat wtm_at "k"
      refine l_ixL (xs := ([0, 1, 1000000, 1000001, -1, 1000000000, 1000000000000000000000000000000, -1000000000] : List Int).map V.int) (by wtm_at "sq") (atI_map (d := 0) (by omega) (by show c % 8 < 8; omega)) ?_
      exact kk _ (Run.ext (by assumption))
    · rw [if_neg c0] at kk
      repeat wtm_at "k"
      refine k_ifd (fun c1 => ?_) fun c1 => ?_
      · rw [if_pos c1] at kk
        repeat wtm_at "k"
        exact kk _ (Ext.refl _ _)
      · rw [if_neg c1] at kk
        repeat wtm_at "k"
        exact kk _ (Ext.refl _ _)
abbrev excN : List Str := ["BadTicks", "NoLease", "NoKey", "Held", "NoStart", "NoWatch"]
def sp_l_only (K : PySem.W.Frag) : SpE := fun a c d vs H Q _ => ∃ D, D ∈ excN ∧ c = .ref (He.ga K D) ∧ d = none ∧ ∃ word, vs = [.ref a, .str word] ∧ PyData.strOk word = true ∧ ∀ H', Ext [] H H' → Q (.bl (decide (D = word))) H'
theorem sc_l_only : FnScope ["_law_error", "_law_word", "_law_words"] ["_law_error", "_law_word"] (defScope s_l_only) := ⟨rfl, rfl, rfl, by decide +kernel, rfl, by decide +kernel, by decide +kernel⟩
theorem ok_l_only (T : FX K mg) : FnE P w K mg base 1 (He.ga K "_law_only") (fdAt K ("_law_only", none)) ["_law_error", "_law_word"] (sp_l_only K) := by
  refine fnE_of T.F_l_only sc_l_only (fun a c d vs H Q E h => ?_) (fun cdv A outer s H vs Q E q c d hot hz hr h => ?_)
  · (repeat (obtain ⟨_, h⟩ := h)); subst_vars; rfl
  · obtain ⟨D, hD, rfl, rfl, h⟩ := h
    have EC := T.xk.exC D hD
    have hf : ∃ vs, q.2.data = .fields vs := let ⟨_, vs, e, _⟩ := hot; ⟨vs, e⟩
    have hu64 := hu64H hr
    have hu := hu1H hr
    refine ⟨_,
      (pss_cons
        (ps_set (i := 2) sc_l_only.nd rfl (Or.inl rfl) (pe_lst pa_nil))
      (pss_cons
        (ps_if (pt_val (pe_callB (call_isP List.mem_cons_self EC hz hf) (by rfl) T.f_isinstance (by decide +kernel) (pa_cons (pv 0) (pa_cons (pe_glob (v := .ref (He.ga K "BadTicks")) rfl T.g_BadTicks rfl) pa_nil))))
          (pss_one
            (ps_expr (pe_bm PySem.F.plainAttrs_list PySem.F.slot_list_append PySem.F.type_list_append mt_append (pv 2) (pa_cons pe_str pa_nil))))
          pss_nil)
      (pss_cons
        (ps_if (pt_val (pe_callB (call_isP List.mem_cons_self EC hz hf) (by rfl) T.f_isinstance (by decide +kernel) (pa_cons (pv 0) (pa_cons (pe_glob (v := .ref (He.ga K "NoLease")) rfl T.g_NoLease rfl) pa_nil))))
          (pss_one
            (ps_expr (pe_bm PySem.F.plainAttrs_list PySem.F.slot_list_append PySem.F.type_list_append mt_append (pv 2) (pa_cons pe_str pa_nil))))
          pss_nil)
      (pss_cons
        (ps_if (pt_val (pe_callB (call_isP List.mem_cons_self EC hz hf) (by rfl) T.f_isinstance (by decide +kernel) (pa_cons (pv 0) (pa_cons (pe_glob (v := .ref (He.ga K "NoKey")) rfl T.g_NoKey rfl) pa_nil))))
          (pss_one
            (ps_expr (pe_bm PySem.F.plainAttrs_list PySem.F.slot_list_append PySem.F.type_list_append mt_append (pv 2) (pa_cons pe_str pa_nil))))
          pss_nil)
      (pss_cons
        (ps_if (pt_val (pe_callB (call_isP List.mem_cons_self EC hz hf) (by rfl) T.f_isinstance (by decide +kernel) (pa_cons (pv 0) (pa_cons (pe_glob (v := .ref (He.ga K "Held")) rfl T.g_Held rfl) pa_nil))))
          (pss_one
            (ps_expr (pe_bm PySem.F.plainAttrs_list PySem.F.slot_list_append PySem.F.type_list_append mt_append (pv 2) (pa_cons pe_str pa_nil))))
          pss_nil)
      (pss_cons
        (ps_if (pt_val (pe_callB (call_isP List.mem_cons_self EC hz hf) (by rfl) T.f_isinstance (by decide +kernel) (pa_cons (pv 0) (pa_cons (pe_glob (v := .ref (He.ga K "NoStart")) rfl T.g_NoStart rfl) pa_nil))))
          (pss_one
            (ps_expr (pe_bm PySem.F.plainAttrs_list PySem.F.slot_list_append PySem.F.type_list_append mt_append (pv 2) (pa_cons pe_str pa_nil))))
          pss_nil)
      (pss_cons
        (ps_if (pt_val (pe_callB (call_isP List.mem_cons_self EC hz hf) (by rfl) T.f_isinstance (by decide +kernel) (pa_cons (pv 0) (pa_cons (pe_glob (v := .ref (He.ga K "NoWatch")) rfl T.g_NoWatch rfl) pa_nil))))
          (pss_one
            (ps_expr (pe_bm PySem.F.plainAttrs_list PySem.F.slot_list_append PySem.F.type_list_append mt_append (pv 2) (pa_cons pe_str pa_nil))))
          pss_nil)
      (pss_one
        (ps_ret (pe_and (pe_callB (call_isP List.mem_cons_self EC hz hf) (by rfl) T.f_isinstance (by decide +kernel) (pa_cons (pv 0) (pa_cons (pe_bltT (n := "ValueError") rfl T.f_ValueError (by decide +kernel)) pa_nil))) (pe_one (pe_cmpR (op_eqD hu64) (pv 2) (pe_lst (pa_cons (pv 1) pa_nil)) (nomark _))))))))))))), ?_⟩
    obtain ⟨word, rfl, ho, kk⟩ := h
    have R0 : Run [] H H := Run.start Live.nil
    have EK := T.xk
    simp only [List.mem_cons, List.not_mem_nil, or_false] at hD
    have fin : ∀ (D0 : Str) (pa pb : Addr) (H' : Hp), PyData.strOk D0 = true → Run [] H H' → SqL K H' pa ([D0].map V.str) → SqL K H' pb ([word].map V.str) → (∀ H', Ext [] H H' → Q (V.bl (decide (D0 = word))) H') → rEqD K (.ref pa) (.ref pb) H' Q := by
      intro D0 pa pb H' o1 r s1 s2 kk
      refine l_eqTx (xs := [D0]) (ys := [word]) (by intro x m; rw [List.mem_singleton.mp m]; exact o1) (by intro x m; rw [List.mem_singleton.mp m]; exact ho) s1 s2 ?_
      have e : decide ([D0] = [word]) = decide (D0 = word) := by simp
      rw [e]
      exact kk _ r.ext
    rcases hD with rfl | rfl | rfl | rfl | rfl | rfl
    all_goals
      repeat wtm_at "k"
      refine fin _ _ _ _ (by decide +kernel) (by assumption) (by wtm_at "sq") (by wtm_at "sq") kk
theorem only_sp {a : Addr} {D0 : Str} (hD : D0 ∈ excN) (word : Str) (H : Hp) (Q : VK) (ho : PyData.strOk word = true) (k : ∀ H', Ext [] H H' → Q (.bl (decide (D0 = word))) H') : sp_l_only K a (.ref (He.ga K D0)) none [.ref a, .str word] H Q E0 := ⟨D0, hD, rfl, rfl, word, rfl, ho, k⟩
end
end LW

set_option maxHeartbeats 4000000
namespace LW
open PySem PySem.Spec PyProof.Rows L2
local macro_rules | `(tactic| wtm_at "vk") => `(tactic| first
  | assumption
  | with_reducible exact rv_mine_given
  | with_reducible exact rv_mine_ends
  | with_reducible exact rv_mine_told
  | exact valV_iv (by assumption)
  | fail)
local macro_rules | `(tactic| wtm_at "pk") => `(tactic| first
  | with_reducible exact putK_iv
  | with_reducible exact dropK_ik
  | with_reducible exact dropK_sk
  | with_reducible exact rp_mine_given
  | with_reducible exact rp_mine_ends
  | with_reducible exact rp_mine_told
  | assumption
  | fail)
local macro_rules | `(tactic| wtm_at "rm") => `(tactic| first
  | with_reducible exact rm_mine
  | exact rfl
  | fail)
local macro_rules | `(tactic| wtm_at "rl") => `(tactic| first
  | with_reducible exact rl_mine
  | with_reducible assumption
  | fail)
local macro_rules | `(tactic| wtm_at "lk") => `(tactic| with_reducible first
  | exact lk_Leases_given
  | exact lk_Leases_spans
  | exact lk_Leases_ends
  | fail)
local macro_rules | `(tactic| wtm_at "lm") => `(tactic| with_reducible first
  | exact lm_Leases_grant
  | exact lm_Leases_need
  | exact lm_Leases_renew
  | exact lm_Leases_drop
  | exact lm_Leases_due
  | fail)
local macro_rules | `(tactic| wtm_at "pt") => `(tactic| with_reducible first
  | exact pt_Leases_given
  | exact pt_Leases_spans
  | exact pt_Leases_ends
  | exact pi_Leases_0
  | exact pi_Leases_1
  | exact pi_Leases_2
  | fail)
local macro_rules | `(tactic| wtm_at "lz") => `(tactic| with_reducible first
  | exact lz_Leases
  | (simp only [List.length_cons, List.length_nil]; decide)
  | exact (by decide)
  | fail)
local macro_rules | `(tactic| wtm_at "hf") => `(tactic| first
  | assumption
  | (refine' hf_s ?hs ?hx; (case hs => assumption); (case hx => wtm_at "hf"))
  | (refine' hf_n ?hs ?hx ?ne; (case hs => assumption); (case hx => wtm_at "hf"); (case ne => wtm_at "ne"))
  | (refine' hf_e ?hs ?hx ?hy; (case hs => assumption); (case hx => wtm_at "hf"); (case hy => wtm_at "nin"))
  | fail)
local macro_rules | `(tactic| wtm_at "ne") => `(tactic| first
  | assumption
  | (apply Ne.symm; assumption)
  | (refine' ne_of_none ?hx ?hy; (case hy => assumption); (case hx => wtm_at "hf"))
  | (refine' (ne_of_none ?hx ?hy).symm; (case hy => assumption); (case hx => wtm_at "hf"))
  | (refine' ne_of ?hx ?hy ?hz; (case hx => assumption); (case hy => assumption); (case hz => intro z; cases z))
  | fail)
local macro_rules | `(tactic| wtm_at "nin") => `(tactic| first
  | assumption
  | exact notin_nil
  | (refine' notin_cons ?hx ?hy; (case hx => wtm_at "ne"); (case hy => wtm_at "nin"))
  | fail)
local macro_rules | `(tactic| wtm_at "mem") => `(tactic| first
  | assumption
  | exact List.mem_cons_self
  | (refine' List.mem_cons_of_mem _ ?hx; (case hx => wtm_at "mem"))
  | fail)
local macro_rules | `(tactic| wtm_at "wr") => `(tactic| first
  | exact Or.inr (by assumption)
  | exact Or.inl (by wtm_at "mem")
  | fail)
local macro_rules | `(tactic| wtm_at "lv") => `(tactic| first
  | assumption
  | exact Live.nil
  | (refine' Live.cons ?hx ?hy; (case hx => wtm_at "hf"); (case hy => wtm_at "lv"))
  | fail)
local macro_rules | `(tactic| wtm_at "sq") => `(tactic| first
  | assumption
  | (refine' Run.seq ?hx ?hy; (case hx => assumption); (case hy => assumption))
  | (refine' SqL.of ?hx; (case hx => wtm_at "hf"))
  | (refine' Same.seq ?hx ?hy; (case hx => assumption); (case hy => wtm_at "sq"))
  | (refine' Ext.seqL ?hx ?hz ?hy; (case hx => assumption); (case hy => wtm_at "sq"); (case hz => wtm_at "nin"))
  | fail)
local macro_rules | `(tactic| wtm_at "st") => `(tactic| first
  | assumption
  | (refine' SqT.of ?hx; (case hx => wtm_at "hf"))
  | fail)
local macro_rules | `(tactic| wtm_at "ix") => `(tactic| first
  | assumption
  | exact rfl
  | fail)
local macro_rules | `(tactic| wtm_at "sz") => `(tactic| first
  | wtm_at "rl"
  | with_reducible assumption
  | (rw [ik_len]; wtm_at "sz")
  | (rw [sk_len]; wtm_at "sz")
  | exact small1000 (by assumption)
  | exact small1000 (by omega)
  | exact small1000 (by simp only [List.length_cons, List.length_nil, List.length_append, List.length_map]; omega)
  | fail)
local macro_rules | `(tactic| wtm_at "k") => `(tactic| first
  | with_reducible refine k_seq ?_
  | with_reducible refine k_next ?_
  | with_reducible refine k_asg ?_
  | with_reducible refine k_ret ?_
  | with_reducible refine k_retN ?_
  | with_reducible refine k_drop ?_
  | with_reducible refine k_ifS ?_
  | ((with_reducible refine' k_var ?hx ?_); (case hx => exact rfl))
  | with_reducible refine k_c ?_
  | with_reducible refine k_negc ?_
  | with_reducible refine k_neg ?_
  | with_reducible refine l_neg ?_
  | with_reducible refine k_op ?_
  | with_reducible refine k_cb ?_
  | with_reducible refine k_nil ?_
  | with_reducible refine k_cons ?_
  | with_reducible refine k_test ?_
  | with_reducible refine k_B ?_
  | with_reducible refine k_not ?_
  | with_reducible refine k_and ?_
  | with_reducible refine k_or ?_
  | with_reducible refine k_notV ?_
  | with_reducible refine k_andV ?_
  | with_reducible refine k_orV ?_
  | with_reducible refine k_bl ?_
  | with_reducible refine k_add ?_
  | with_reducible refine k_sub ?_
  | ((with_reducible refine' k_mod ?hx ?_); (case hx => first | decide | omega))
  | ((with_reducible refine' k_div ?hx ?_); (case hx => exact ⟨by decide, by decide⟩))
  | ((with_reducible refine' k_mul ?hx ?_); (case hx => first | exact Or.inl ⟨by decide, by decide⟩ | exact Or.inr ⟨by decide, by decide⟩ | exact Or.inl ⟨by omega, by omega⟩))
  | with_reducible refine k_p6 ?_
  | with_reducible refine k_p9 ?_
  | with_reducible refine k_p12 ?_
  | with_reducible refine k_p13 ?_
  | with_reducible refine k_p18 ?_
  | with_reducible refine k_p30 ?_
  | with_reducible refine k_lt ?_
  | with_reducible refine k_le ?_
  | with_reducible refine k_gt ?_
  | with_reducible refine k_ge ?_
  | with_reducible refine k_eq ?_
  | with_reducible refine k_ne ?_
  | with_reducible refine k_seqS ?_
  | with_reducible refine k_neS ?_
  | with_reducible refine k_neB ?_
  | with_reducible refine k_isN ?_
  | with_reducible refine k_noN ?_
  | with_reducible refine k_fld ?_
  | ((with_reducible refine' l_fld ?hx ?hy ?_); (case hx => wtm_at "hf"); (case hy => wtm_at "lk"))
  | with_reducible refine k_fldS ?_
  | ((with_reducible refine' l_fldS ?hr ?hx ?hz ?hy ?hw ?_); (case hr => assumption); (case hx => wtm_at "hf"); (case hy => wtm_at "pt"); (case hz => wtm_at "lz"); (case hw => wtm_at "wr"); intro _ _ _ _)
  | ((with_reducible refine' l_new ?hr ?_); (case hr => assumption); intro _ _ _ _ _ _ _ _)
  | with_reducible refine k_append ?_
  | ((with_reducible refine' l_tyL ?hx ?_); (case hx => wtm_at "hf"))
  | ((with_reducible refine' l_ins ?hx ?hy ?_); (case hx => wtm_at "hf"); (case hy => wtm_at "lm"))
  | with_reducible refine k_methS ?_
  | with_reducible refine k_meth0 ?_
  | with_reducible refine k_callS ?_
  | with_reducible refine k_callE ?_
  | with_reducible refine k_dget ?_
  | with_reducible refine k_din ?_
  | with_reducible refine k_dnotin ?_
  | with_reducible refine k_dput ?_
  | with_reducible refine k_dpop ?_
  | with_reducible refine k_dget2 ?_
  | with_reducible refine k_tup ?_
  | with_reducible refine k_lst ?_
  | with_reducible refine k_dnew ?_
  | ((with_reducible refine' l_tup ?hx ?_); (case hx => simp only [List.length_cons, List.length_nil]; decide))
  | ((with_reducible refine' l_lst ?hx ?_); (case hx => simp only [List.length_cons, List.length_nil]; decide))
  | ((with_reducible refine' l_isD ?hx ?_); (case hx => wtm_at "hf"))
  | ((with_reducible refine' l_dinI ?hx ?_); (case hx => wtm_at "hf"))
  | ((with_reducible refine' l_dinS ?hx ?_); (case hx => wtm_at "hf"))
  | ((with_reducible refine' l_dnotinI ?hx ?_); (case hx => wtm_at "hf"))
  | ((with_reducible refine' l_dnotinS ?hx ?_); (case hx => wtm_at "hf"))
  | ((with_reducible refine' l_dputI ?hr ?hx ?hz ?hy ?hw ?_); (case hr => assumption); (case hx => wtm_at "hf"); (case hy => wtm_at "pk"); (case hz => wtm_at "sz"); (case hw => wtm_at "wr"); intro _ _ _ _)
  | ((with_reducible refine' l_dputS ?hr ?hx ?hz ?hy ?hw ?_); (case hr => assumption); (case hx => wtm_at "hf"); (case hy => wtm_at "pk"); (case hz => wtm_at "sz"); (case hw => wtm_at "wr"); intro _ _ _ _)
  | ((with_reducible refine' l_dpopI ?hr ?hx ?hz ?hy ?hw ?_); (case hr => assumption); (case hx => wtm_at "hf"); (case hy => wtm_at "pk"); (case hz => wtm_at "vk"); (case hw => wtm_at "wr"); intro _ _ _ _)
  | ((with_reducible refine' l_dpopS ?hr ?hx ?hz ?hy ?hw ?_); (case hr => assumption); (case hx => wtm_at "hf"); (case hy => wtm_at "pk"); (case hz => wtm_at "vk"); (case hw => wtm_at "wr"); intro _ _ _ _)
  | ((with_reducible refine' l_dgetI ?hx ?hz ?_); (case hx => wtm_at "hf"); (case hz => wtm_at "vk"))
  | ((with_reducible refine' l_dgetS ?hx ?hz ?_); (case hx => wtm_at "hf"); (case hz => wtm_at "vk"))
  | ((with_reducible refine' l_dgetIF ?hx ?hz ?_); (case hx => wtm_at "hf"); (case hz => wtm_at "vk"))
  | ((with_reducible refine' l_dgetSF ?hx ?hz ?_); (case hx => wtm_at "hf"); (case hz => wtm_at "vk"))
  | ((with_reducible refine' k_disp ?hr ?_); (case hr => assumption); intro _ _ _ _ _ _ _ _)
  | with_reducible refine k_pcons ?_
  | with_reducible refine k_pnil ?_
  | ((with_reducible refine' l_disp ?hr ?hx ?hu ?hv ?hy ?hw ?_); (case hr => assumption); (case hx => wtm_at "hf"); (case hu => exact rfl); (case hv => simp only [List.length_map, List.length_cons, List.length_nil]; decide); (case hy => wtm_at "rm"); (case hw => wtm_at "wr"); intro _ _ _ _)
  | ((with_reducible refine' l_append ?hr ?hx ?hz ?hw ?_); (case hr => assumption); (case hx => wtm_at "hf"); (case hz => wtm_at "sz"); (case hw => wtm_at "wr"); intro _ _ _ _)
  | ((with_reducible refine' l_isEt ?hx ?_); (case hx => first | exact isD (ExcK.kit (by assumption) _ (by wtm_at "mem") _ (by wtm_at "mem")) | exact isC (ExcK.kit (by assumption) _ (by wtm_at "mem") _ (by wtm_at "mem")) (by decide)))
  | ((with_reducible refine' l_isEV ?hx ?_); (case hx => exact ExcK.kitV (by assumption) _ (by wtm_at "mem")))
  | ((with_reducible refine' l_isiI ?hx ?_); (case hx => first | rfl | assumption))
  | ((with_reducible refine' l_isiB ?hx ?_); (case hx => first | rfl | assumption))
  | ((with_reducible refine' l_isiS ?hx ?_); (case hx => first | rfl | assumption))
  | ((with_reducible refine' l_isiL ?hx ?_); (case hx => wtm_at "hf"))
  | ((with_reducible refine' l_isiT ?hx ?_); (case hx => wtm_at "hf"))
  | ((with_reducible refine' l_lenL ?hx ?_); (case hx => wtm_at "sq"))
  | ((with_reducible refine' l_lenT ?hx ?_); (case hx => wtm_at "st"))
  | ((with_reducible refine' l_ixL ?hx ?hy ?_); (case hx => wtm_at "sq"); (case hy => wtm_at "ix"))
  | ((with_reducible refine' l_ixT ?hx ?hy ?_); (case hx => wtm_at "st"); (case hy => wtm_at "ix"))
  | with_reducible refine k_for ?_
  | with_reducible refine k_rng1 ?_
  | with_reducible refine k_rng2 ?_
  | with_reducible refine k_rng3 ?_
  | with_reducible refine k_makeS ?_
  | ((with_reducible refine' l_make ?hr ?_); (case hr => assumption); intro _ _ _ _ _ _ _ _ _)
  | with_reducible refine k_ntt ?_
  | with_reducible refine k_ntf ?_
  | with_reducible refine k_clear ?_
  | ((with_reducible refine' l_clear ?hr ?hx ?hw ?_); (case hr => assumption); (case hx => wtm_at "hf"); (case hw => wtm_at "wr"); intro _ _ _ _)
  | with_reducible refine k_ift ?_
  | with_reducible refine k_iff ?_
  | with_reducible refine g_name ?_
  | fail)
/-! ### leases -/
structure LS where
  given : Int
  spans : List (Int × Int)
  ends : List (Int × Int)
def LS.new : LS := ⟨0, [], []⟩
def LS.grant (L : LS) (now ticks : Int) : LS := ⟨L.given + 1, aput L.spans (L.given + 1) ticks, aput L.ends (L.given + 1) (now + ticks)⟩
def LS.renew (L : LS) (lease at_ : Int) : LS := { L with ends := aput L.ends lease at_ }
def LS.drop (L : LS) (lease : Int) : LS := { L with spans := adrop L.spans lease, ends := adrop L.ends lease }
def LS.dueRaw (L : LS) (til : Int) : List (Int × Int) := (L.ends.filter fun p => decide (p.2 ≤ til)).map fun p => (p.2, p.1)
def LS.due (L : LS) (til : Int) : List (Int × Int) := sortP (L.dueRaw til)
structure LeasesAt (K : PySem.W.Frag) (H : Hp) (p ps pe : Addr) (L : LS) : Prop where
  ob : ∃ dx, H p = some (.ins (He.ga K "Leases") dx (fl_Leases (.int L.given) (.ref ps) (.ref pe)))
  sp : H ps = some (.dK (ik iv L.spans))
  en : H pe = some (.dK (ik iv L.ends))
  ne : ps ≠ pe
theorem LeasesAt.ext {K : PySem.W.Frag} {H H' : Hp} {p ps pe : Addr} {L : LS} {F : List Addr} (a : LeasesAt K H p ps pe L) (e : Ext F H H') (h1 : p ∉ F) (h2 : ps ∉ F) (h3 : pe ∉ F) : LeasesAt K H' p ps pe L :=
  ⟨let ⟨dx, h⟩ := a.ob; ⟨dx, e.keep _ _ h h1⟩, e.keep _ _ a.sp h2, e.keep _ _ a.en h3, a.ne⟩
def sp_Leases_init (K : PySem.W.Frag) : Sp := fun vs H Q _ => ∃ p dx, vs = [.ref p] ∧ H p = some (.ins (He.ga K "Leases") dx []) ∧
  ∀ H' ps pe, H ps = none → H pe = none → LeasesAt K H' p ps pe LS.new → Ext [p] H H' → Q .non H'
section
variable {P : Program} {w : World} {K : PySem.W.Frag} {mg : Str → Option Value} {base : Heap}
theorem sc_Leases_init : FnScope ["self"] ["self"] (defScope s_Leases_init) := ⟨rfl, rfl, rfl, by decide +kernel, rfl, by decide +kernel, by decide +kernel⟩
theorem ok_Leases_init (T : FX K mg) : FnOk P w K mg base (L2N.CX P w) 1 (He.ma K (He.ga K "Leases") "__init__") (fdAt K ("Leases", some "__init__")) ["self"] (sp_Leases_init K) := by
  refine FunD.ok T.F_Leases_init sc_Leases_init (fun vs H Q E h => ?_) (fun cdv A outer s H vs Q E hr h => ?_)
  · (repeat (obtain ⟨_, h⟩ := h)); subst_vars; rfl
  · have hu := hu_of hr
    have hu64 := hr.units
    refine ⟨_,
      (pss_cons
        (ps_fldC T.cl_Leases T.na_Leases_given (pv 0) pe_int)
      (pss_cons
        (ps_fldC T.cl_Leases T.na_Leases_spans (pv 0) pe_dnewK)
      (pss_one
        (ps_fldC T.cl_Leases T.na_Leases_ends (pv 0) pe_dnewK)))), ?_⟩
    obtain ⟨p, dx, rfl, hp, k⟩ := h
    have R0 : Run [p] H H := Run.start (by wtm_at "lv")
    repeat wtm_at "k"
    refine' k _ _ _ ?h1 ?h2 ⟨⟨dx, ?gA⟩, ?gB, ?gC, ?gD⟩ (Run.ext (by assumption))
    case gA => wtm_at "hf"
    case gB => wtm_at "hf"
    case gC => wtm_at "hf"
    case gD => wtm_at "ne"
    all_goals assumption

def sp_Leases_grant (K : PySem.W.Frag) : Sp := fun vs H Q E => ∃ p ps pe L now ticks, vs = [.ref p, .int now, .int ticks] ∧ LeasesAt K H p ps pe L ∧ L.spans.length ≤ 1000 ∧ L.ends.length ≤ 1000 ∧
  (1 ≤ ticks ∧ ticks ≤ 1000000 → ∀ H', LeasesAt K H' p ps pe (L.grant now ticks) → Ext [p, ps, pe] H H' → Q (.int (L.given + 1)) H') ∧
  (¬ (1 ≤ ticks ∧ ticks ≤ 1000000) → E (.ref (He.ga K "BadTicks")) none H)
theorem sc_Leases_grant : FnScope ["self", "now", "ticks"] ["self", "now", "ticks"] (defScope s_Leases_grant) := ⟨rfl, rfl, rfl, by decide +kernel, rfl, by decide +kernel, by decide +kernel⟩
theorem ok_Leases_grant (T : FX K mg) : FnOk P w K mg base (L2N.CX P w) 1 (He.ma K (He.ga K "Leases") "grant") (fdAt K ("Leases", some "grant")) ["self", "now", "ticks"] (sp_Leases_grant K) := by
  refine FunD.ok T.F_Leases_grant sc_Leases_grant (fun vs H Q E h => ?_) (fun cdv A outer s H vs Q E hr h => ?_)
  · (repeat (obtain ⟨_, h⟩ := h)); subst_vars; rfl
  · have hu := hu_of hr
    have hu64 := hr.units
    obtain ⟨tMT, hMT⟩ := T.i_MOST_TICKS
    refine ⟨_,
      (pss_cons
        (ps_if (PW.pt (pw_or (pt_cmpR oIlt (pv 2) pe_int (nomark _)) (pw_or1 (pt_cmpR oIgt (pv 2) (pe_globI rfl hMT) (nomark _)))))
          (pss_one
            (L2N.ps_raise rfl tkd (L2N.pmk_own PySem.F.excBase_ValueError T.x_BadTicks.1 T.g_BadTicks T.x_BadTicks.2.1 (raises_own T.x_BadTicks.2.2.1 T.x_BadTicks.2.2.2) rfl)))
          pss_nil)
      (pss_cons
        (ps_fldC T.cl_Leases T.na_Leases_given (pv 0) (pe_op oIadd (pe_fldC T.cl_Leases T.na_Leases_given (pv 0)) pe_int))
      (pss_cons
        (ps_dput hu (pe_fldC T.cl_Leases T.na_Leases_spans (pv 0)) (pe_fldC T.cl_Leases T.na_Leases_given (pv 0)) (pv 2) rfl)
      (pss_cons
        (ps_dput hu (pe_fldC T.cl_Leases T.na_Leases_ends (pv 0)) (pe_fldC T.cl_Leases T.na_Leases_given (pv 0)) (pe_op oIadd (pv 1) (pv 2)) rfl)
      (pss_one
        (ps_ret (pe_fldC T.cl_Leases T.na_Leases_given (pv 0)))))))), ?_⟩
    obtain ⟨p, ps, pe, L, now, ticks, rfl, ⟨⟨dx, hp⟩, hs, he, hne⟩, z1, z2, k1, k2⟩ := h
    have n1 : p ≠ ps := by wtm_at "ne"
    have n2 : p ≠ pe := by wtm_at "ne"
    have R0 : Run [p, ps, pe] H H := Run.start (by wtm_at "lv")
    repeat wtm_at "k"
    refine k_ifd (fun c => k_ift (k2 (by omega))) fun c1 => ?_
    repeat wtm_at "k"
    refine k_ifd (fun c => k2 (by omega)) fun c2 => ?_
    repeat wtm_at "k"
    refine k1 ⟨by omega, by omega⟩ _ ⟨⟨dx, ?gA⟩, ?gB, ?gC, hne⟩ (Run.ext (by assumption))
    case gA => wtm_at "hf"
    case gB => wtm_at "hf"
    case gC => wtm_at "hf"
def sp_Leases_need (K : PySem.W.Frag) : Sp := fun vs H Q E => ∃ p ps pe L lease, vs = [.ref p, .int lease] ∧ LeasesAt K H p ps pe L ∧
  ((∃ t, aget L.ends lease = some t) → Q .non H) ∧ (aget L.ends lease = none → E (.ref (He.ga K "NoLease")) none H)
theorem sc_Leases_need : FnScope ["self", "lease"] ["self", "lease"] (defScope s_Leases_need) := ⟨rfl, rfl, rfl, by decide +kernel, rfl, by decide +kernel, by decide +kernel⟩
theorem ok_Leases_need (T : FX K mg) : FnOk P w K mg base (L2N.CX P w) 1 (He.ma K (He.ga K "Leases") "need") (fdAt K ("Leases", some "need")) ["self", "lease"] (sp_Leases_need K) := by
  refine FunD.ok T.F_Leases_need sc_Leases_need (fun vs H Q E h => ?_) (fun cdv A outer s H vs Q E hr h => ?_)
  · (repeat (obtain ⟨_, h⟩ := h)); subst_vars; rfl
  · have hu := hu_of hr
    have hu64 := hr.units
    refine ⟨_,
      (pss_one
        (ps_if (pt_cmp (pc_dnotin hu (pv 1) (pe_fldC T.cl_Leases T.na_Leases_ends (pv 0))))
          (pss_one
            (L2N.ps_raise rfl tkd (L2N.pmk_own PySem.F.excBase_ValueError T.x_NoLease.1 T.g_NoLease T.x_NoLease.2.1 (raises_own T.x_NoLease.2.2.1 T.x_NoLease.2.2.2) rfl)))
          pss_nil)), ?_⟩
    obtain ⟨p, ps, pe, L, lease, rfl, ⟨⟨dx, hp⟩, hs, he, hne⟩, k1, k2⟩ := h
    repeat wtm_at "k"
    rw [valV_ik]
    cases c : aget L.ends lease with
    | none =>
      refine k_ift ?_
      exact k2 c
    | some t =>
      refine k_iff ?_
      repeat wtm_at "k"
      exact k1 ⟨t, c⟩
def sp_Leases_renew (K : PySem.W.Frag) : Sp := fun vs H Q E => ∃ p ps pe L now lease, vs = [.ref p, .int now, .int lease] ∧ LeasesAt K H p ps pe L ∧ L.spans.length ≤ 1000 ∧ L.ends.length ≤ 1000 ∧
  (∀ e, aget L.ends lease = some e → ∃ t, aget L.spans lease = some t ∧ ∀ H', LeasesAt K H' p ps pe (L.renew lease (now + t)) → Ext [p, ps, pe] H H' → Q .non H') ∧ (aget L.ends lease = none → E (.ref (He.ga K "NoLease")) none H)
theorem sc_Leases_renew : FnScope ["self", "now", "lease"] ["self", "now", "lease"] (defScope s_Leases_renew) := ⟨rfl, rfl, rfl, by decide +kernel, rfl, by decide +kernel, by decide +kernel⟩
theorem ok_Leases_renew (T : FX K mg) : FnOk P w K mg base (L2N.CX P w) 2 (He.ma K (He.ga K "Leases") "renew") (fdAt K ("Leases", some "renew")) ["self", "now", "lease"] (sp_Leases_renew K) := by
  refine FunD.ok T.F_Leases_renew sc_Leases_renew (fun vs H Q E h => ?_) (fun cdv A outer s H vs Q E hr h => ?_)
  · (repeat (obtain ⟨_, h⟩ := h)); subst_vars; rfl
  · have hu := hu_of hr
    have hu64 := hr.units
    refine ⟨_,
      (pss_cons
        (ps_expr (pe_methS (pv 0) T.cl_Leases T.me_Leases_need (ok_Leases_need T) (hr.mono (j := 1) (by decide)) T.b_Leases_need (fun σ => L2N.passAt tkd σ) (pa_cons (pv 2) pa_nil)))
      (pss_one
        (ps_dput hu (pe_fldC T.cl_Leases T.na_Leases_ends (pv 0)) (pv 2) (pe_op oIadd (pv 1) (pe_dget hu (pe_fldC T.cl_Leases T.na_Leases_spans (pv 0)) (pv 2) (fun _ _ => rfl))) rfl))), ?_⟩
    obtain ⟨p, ps, pe, L, now, lease, rfl, hL, z1, z2, k1, k2⟩ := h
    obtain ⟨⟨dx, hp⟩, hs, he, hne⟩ := id hL
    have n1 : p ≠ ps := by wtm_at "ne"
    have n2 : p ≠ pe := by wtm_at "ne"
    have R0 : Run [p, ps, pe] H H := Run.start (by wtm_at "lv")
    repeat wtm_at "k"
    refine ⟨p, ps, pe, L, lease, rfl, hL, fun ⟨e, ce⟩ => ?_, k2⟩
    obtain ⟨t, ct, k1⟩ := k1 e ce
    repeat wtm_at "k"
    refine k1 _ ⟨⟨dx, ?gA⟩, ?gB, ?gC, hne⟩ (Run.ext (by assumption))
    case gA => wtm_at "hf"
    case gB => wtm_at "hf"
    case gC => wtm_at "hf"
def sp_Leases_drop (K : PySem.W.Frag) : Sp := fun vs H Q E => ∃ p ps pe L lease, vs = [.ref p, .int lease] ∧ LeasesAt K H p ps pe L ∧
  (∀ e, aget L.ends lease = some e → ∃ t, aget L.spans lease = some t ∧ ∀ H', LeasesAt K H' p ps pe (L.drop lease) → Ext [p, ps, pe] H H' → Q .non H') ∧ (aget L.ends lease = none → E (.ref (He.ga K "NoLease")) none H)
theorem sc_Leases_drop : FnScope ["self", "lease"] ["self", "lease"] (defScope s_Leases_drop) := ⟨rfl, rfl, rfl, by decide +kernel, rfl, by decide +kernel, by decide +kernel⟩
theorem ok_Leases_drop (T : FX K mg) : FnOk P w K mg base (L2N.CX P w) 2 (He.ma K (He.ga K "Leases") "drop") (fdAt K ("Leases", some "drop")) ["self", "lease"] (sp_Leases_drop K) := by
  refine FunD.ok T.F_Leases_drop sc_Leases_drop (fun vs H Q E h => ?_) (fun cdv A outer s H vs Q E hr h => ?_)
  · (repeat (obtain ⟨_, h⟩ := h)); subst_vars; rfl
  · have hu := hu_of hr
    have hu64 := hr.units
    refine ⟨_,
      (pss_cons
        (ps_expr (pe_methS (pv 0) T.cl_Leases T.me_Leases_need (ok_Leases_need T) (hr.mono (j := 1) (by decide)) T.b_Leases_need (fun σ => L2N.passAt tkd σ) (pa_cons (pv 1) pa_nil)))
      (pss_cons
        (ps_expr (pe_dpop1 (pe_fldC T.cl_Leases T.na_Leases_ends (pv 0)) (pv 1) ⟨rfl, rfl, rfl, rfl⟩))
      (pss_one
        (ps_expr (pe_dpop1 (pe_fldC T.cl_Leases T.na_Leases_spans (pv 0)) (pv 1) ⟨rfl, rfl, rfl, rfl⟩))))), ?_⟩
    obtain ⟨p, ps, pe, L, lease, rfl, hL, k1, k2⟩ := h
    obtain ⟨⟨dx, hp⟩, hs, he, hne⟩ := id hL
    have n1 : p ≠ ps := by wtm_at "ne"
    have n2 : p ≠ pe := by wtm_at "ne"
    have R0 : Run [p, ps, pe] H H := Run.start (by wtm_at "lv")
    repeat wtm_at "k"
    refine ⟨p, ps, pe, L, lease, rfl, hL, fun ⟨e, ce⟩ => ?_, k2⟩
    obtain ⟨t, ct, k1⟩ := k1 e ce
    repeat wtm_at "k"
    refine k1 _ ⟨⟨dx, ?gA⟩, ?gB, ?gC, hne⟩ (Run.ext (by assumption))
    case gA => wtm_at "hf"
    case gB => wtm_at "hf"
    case gC => wtm_at "hf"

def sp_Leases_due (K : PySem.W.Frag) : Sp := fun vs H Q _ => ∃ p ps pe L til, vs = [.ref p, .int til] ∧ LeasesAt K H p ps pe L ∧ L.ends.length ≤ 1000 ∧ (L.ends.map (·.1)).Nodup ∧
  ∀ l H' ys, H l = none → Ext [] H H' → H' l = some (.lst ys) → Paired (IsP H') ys (L.due til) → Q (.ref l) H'
theorem sc_Leases_due : FnScope ["self", "until", "lease"] ["self", "until"] (defScope s_Leases_due) := ⟨rfl, rfl, rfl, by decide +kernel, rfl, by decide +kernel, by decide +kernel⟩
theorem ok_Leases_due (T : FX K mg) : FnOk P w K mg base (L2N.CX P w) 1 (He.ma K (He.ga K "Leases") "due") (fdAt K ("Leases", some "due")) ["self", "until"] (sp_Leases_due K) := by
  refine FunD.ok T.F_Leases_due sc_Leases_due (fun vs H Q E h => ?_) (fun cdv A outer s H vs Q E hr h => ?_)
  · (repeat (obtain ⟨_, h⟩ := h)); subst_vars; rfl
  · have hu := hu_of hr
    have hu64 := hr.units
    refine ⟨_,
      (pss_one
        (ps_ret (pe_callB cr_sortedPO (by rfl) T.f_sorted (by decide +kernel) (pa_cons (pe_lock (pe_lc (own := [("lease", 2)]) (g := gName 2) rfl sc_Leases_due.nd (pi_keys (pe_fldC T.cl_Leases T.na_Leases_ends (pv 0))) (blkOk_by (N := ["self", "until", "lease"]) (sc := defScope s_Leases_due) (by decide +kernel)) (fun _ _ _ _ _ => (pg_name (i := 2) sc_Leases_due.nd rfl (Or.inl rfl))) (fun _ _ _ _ _ => (pts_one (pt_cmpR oIle (pe_dget hu (pe_fldC T.cl_Leases T.na_Leases_ends (pv 0)) (pv 2) (fun _ _ => rfl)) (pv 1) (nomark _)))) (fun _ _ _ _ _ => (pe_tup (pa_cons (pe_dget hu (pe_fldC T.cl_Leases T.na_Leases_ends (pv 0)) (pv 2) (fun _ _ => rfl)) (pa_cons (pv 2) pa_nil)))))) pa_nil)))), ?_⟩
    obtain ⟨p, ps, pe, L, til, rfl, hL, z2, nd, k⟩ := h
    obtain ⟨⟨dx, hp⟩, hs, he, hne⟩ := id hL
    have n2 : p ≠ pe := by wtm_at "ne"
    have ze : (ik iv L.ends).length < sizeLine := by wtm_at "sz"
    repeat wtm_at "k"
    refine lc_keysI (j := 2) he ze (fun od R hR => ?_) (fun m acc H' => Paired (IsP H') acc ((m.filter fun q : Int × Int => decide (q.2 ≤ til)).map fun q : Int × Int => (q.2, q.1)))
      .nil (fun m acc H1 H2 t h => keepP t h) (fun i p1 od acc H1 R R0 el hf hk hl hP q1 q0 => ?_) (fun D H' acc nD e hD lD hP => ?_)
    · have a1 : upd H pe (.frz od (.dK (ik iv L.ends))) p = some _ := (upd_ne n2).trans hp
      repeat wtm_at "k"
      exact hR
    · have ge : aget L.ends p1.1 = some p1.2 := aget_of_mem nd (List.mem_of_getElem? el)
      have a1 := hk _ _ n2 hp
      have R1 : Run [] H1 H1 := Run.start Live.nil
      repeat wtm_at "k"
      refine k_ifd (fun c => ?_) fun c => ?_
      · repeat wtm_at "k"
        refine q1 _ _ (Run.ext (by assumption)) ?_
        rw [List.filter_append, List.map_append, List.filter_cons, if_pos (decide_eq_true c)]
        exact pmapP (keepP (Run.ext (by assumption)).tups hP) ⟨_, rfl, by wtm_at "hf"⟩
      · refine q0 _ (Ext.refl _ _) ?_
        rw [List.filter_append, List.map_append, List.filter_cons, if_neg (by simpa using c)]
        simpa using hP
    · have R1 : Run [] H' H' := Run.start Live.nil
      repeat wtm_at "k"
      refine l_sortedP R1 hD hP fun l H2 ys h1 h2 h3 r2 h4 s2 h5 => ?_
      exact k l H2 ys (e.free h1 (by simp)) (e.add r2.ext) h4 h5
end
end LW

set_option maxHeartbeats 4000000
namespace LW
open PySem PySem.Spec PyProof.Rows L2
local macro_rules | `(tactic| wtm_at "vk") => `(tactic| first
  | assumption
  | with_reducible exact rv_mine_given
  | with_reducible exact rv_mine_ends
  | with_reducible exact rv_mine_told
  | exact valV_iv (by assumption)
  | fail)
local macro_rules | `(tactic| wtm_at "pk") => `(tactic| first
  | with_reducible exact putK_iv
  | with_reducible exact dropK_ik
  | with_reducible exact dropK_sk
  | with_reducible exact rp_mine_given
  | with_reducible exact rp_mine_ends
  | with_reducible exact rp_mine_told
  | assumption
  | fail)
local macro_rules | `(tactic| wtm_at "rm") => `(tactic| first
  | with_reducible exact rm_mine
  | exact rfl
  | fail)
local macro_rules | `(tactic| wtm_at "rl") => `(tactic| first
  | with_reducible exact rl_mine
  | with_reducible assumption
  | fail)
local macro_rules | `(tactic| wtm_at "lk") => `(tactic| with_reducible first
  | exact lk_Leases_given
  | exact lk_Leases_spans
  | exact lk_Leases_ends
  | fail)
local macro_rules | `(tactic| wtm_at "lm") => `(tactic| with_reducible first
  | exact lm_Leases_grant
  | exact lm_Leases_need
  | exact lm_Leases_renew
  | exact lm_Leases_drop
  | exact lm_Leases_due
  | fail)
local macro_rules | `(tactic| wtm_at "pt") => `(tactic| with_reducible first
  | exact pt_Leases_given
  | exact pt_Leases_spans
  | exact pt_Leases_ends
  | exact pi_Leases_0
  | exact pi_Leases_1
  | exact pi_Leases_2
  | fail)
local macro_rules | `(tactic| wtm_at "lz") => `(tactic| with_reducible first
  | exact lz_Leases
  | (simp only [List.length_cons, List.length_nil]; decide)
  | exact (by decide)
  | fail)
local macro_rules | `(tactic| wtm_at "hf") => `(tactic| first
  | assumption
  | (refine' hf_s ?hs ?hx; (case hs => assumption); (case hx => wtm_at "hf"))
  | (refine' hf_n ?hs ?hx ?ne; (case hs => assumption); (case hx => wtm_at "hf"); (case ne => wtm_at "ne"))
  | (refine' hf_e ?hs ?hx ?hy; (case hs => assumption); (case hx => wtm_at "hf"); (case hy => wtm_at "nin"))
  | fail)
local macro_rules | `(tactic| wtm_at "ne") => `(tactic| first
  | assumption
  | (apply Ne.symm; assumption)
  | (refine' ne_of_none ?hx ?hy; (case hy => assumption); (case hx => wtm_at "hf"))
  | (refine' (ne_of_none ?hx ?hy).symm; (case hy => assumption); (case hx => wtm_at "hf"))
  | (refine' ne_of ?hx ?hy ?hz; (case hx => assumption); (case hy => assumption); (case hz => intro z; cases z))
  | fail)
local macro_rules | `(tactic| wtm_at "nin") => `(tactic| first
  | assumption
  | exact notin_nil
  | (refine' notin_cons ?hx ?hy; (case hx => wtm_at "ne"); (case hy => wtm_at "nin"))
  | fail)
local macro_rules | `(tactic| wtm_at "mem") => `(tactic| first
  | assumption
  | exact List.mem_cons_self
  | (refine' List.mem_cons_of_mem _ ?hx; (case hx => wtm_at "mem"))
  | fail)
local macro_rules | `(tactic| wtm_at "wr") => `(tactic| first
  | exact Or.inr (by assumption)
  | exact Or.inl (by wtm_at "mem")
  | fail)
local macro_rules | `(tactic| wtm_at "lv") => `(tactic| first
  | assumption
  | exact Live.nil
  | (refine' Live.cons ?hx ?hy; (case hx => wtm_at "hf"); (case hy => wtm_at "lv"))
  | fail)
local macro_rules | `(tactic| wtm_at "sq") => `(tactic| first
  | assumption
  | (refine' Run.seq ?hx ?hy; (case hx => assumption); (case hy => assumption))
  | (refine' SqL.of ?hx; (case hx => wtm_at "hf"))
  | (refine' Same.seq ?hx ?hy; (case hx => assumption); (case hy => wtm_at "sq"))
  | (refine' Ext.seqL ?hx ?hz ?hy; (case hx => assumption); (case hy => wtm_at "sq"); (case hz => wtm_at "nin"))
  | fail)
local macro_rules | `(tactic| wtm_at "st") => `(tactic| first
  | assumption
  | (refine' SqT.of ?hx; (case hx => wtm_at "hf"))
  | fail)
local macro_rules | `(tactic| wtm_at "ix") => `(tactic| first
  | assumption
  | exact rfl
  | fail)
local macro_rules | `(tactic| wtm_at "sz") => `(tactic| first
  | wtm_at "rl"
  | with_reducible assumption
  | (rw [ik_len]; wtm_at "sz")
  | (rw [sk_len]; wtm_at "sz")
  | exact small1000 (by assumption)
  | exact small1000 (by omega)
  | exact small1000 (by simp only [List.length_cons, List.length_nil, List.length_append, List.length_map]; omega)
  | fail)
local macro_rules | `(tactic| wtm_at "k") => `(tactic| first
  | with_reducible refine k_seq ?_
  | with_reducible refine k_next ?_
  | with_reducible refine k_asg ?_
  | with_reducible refine k_ret ?_
  | with_reducible refine k_retN ?_
  | with_reducible refine k_drop ?_
  | with_reducible refine k_ifS ?_
  | ((with_reducible refine' k_var ?hx ?_); (case hx => exact rfl))
  | with_reducible refine k_c ?_
  | with_reducible refine k_negc ?_
  | with_reducible refine k_neg ?_
  | with_reducible refine l_neg ?_
  | with_reducible refine k_op ?_
  | with_reducible refine k_cb ?_
  | with_reducible refine k_nil ?_
  | with_reducible refine k_cons ?_
  | with_reducible refine k_test ?_
  | with_reducible refine k_B ?_
  | with_reducible refine k_not ?_
  | with_reducible refine k_and ?_
  | with_reducible refine k_or ?_
  | with_reducible refine k_notV ?_
  | with_reducible refine k_andV ?_
  | with_reducible refine k_orV ?_
  | with_reducible refine k_bl ?_
  | with_reducible refine k_add ?_
  | with_reducible refine k_sub ?_
  | ((with_reducible refine' k_mod ?hx ?_); (case hx => first | decide | omega))
  | ((with_reducible refine' k_div ?hx ?_); (case hx => exact ⟨by decide, by decide⟩))
  | ((with_reducible refine' k_mul ?hx ?_); (case hx => first | exact Or.inl ⟨by decide, by decide⟩ | exact Or.inr ⟨by decide, by decide⟩ | exact Or.inl ⟨by omega, by omega⟩))
  | with_reducible refine k_p6 ?_
  | with_reducible refine k_p9 ?_
  | with_reducible refine k_p12 ?_
  | with_reducible refine k_p13 ?_
  | with_reducible refine k_p18 ?_
  | with_reducible refine k_p30 ?_
  | with_reducible refine k_lt ?_
  | with_reducible refine k_le ?_
  | with_reducible refine k_gt ?_
  | with_reducible refine k_ge ?_
  | with_reducible refine k_eq ?_
  | with_reducible refine k_ne ?_
  | with_reducible refine k_seqS ?_
  | with_reducible refine k_neS ?_
  | with_reducible refine k_neB ?_
  | with_reducible refine k_isN ?_
  | with_reducible refine k_noN ?_
  | with_reducible refine k_fld ?_
  | ((with_reducible refine' l_fld ?hx ?hy ?_); (case hx => wtm_at "hf"); (case hy => wtm_at "lk"))
  | with_reducible refine k_fldS ?_
  | ((with_reducible refine' l_fldS ?hr ?hx ?hz ?hy ?hw ?_); (case hr => assumption); (case hx => wtm_at "hf"); (case hy => wtm_at "pt"); (case hz => wtm_at "lz"); (case hw => wtm_at "wr"); intro _ _ _ _)
  | ((with_reducible refine' l_new ?hr ?_); (case hr => assumption); intro _ _ _ _ _ _ _ _)
  | with_reducible refine k_append ?_
  | ((with_reducible refine' l_tyL ?hx ?_); (case hx => wtm_at "hf"))
  | ((with_reducible refine' l_ins ?hx ?hy ?_); (case hx => wtm_at "hf"); (case hy => wtm_at "lm"))
  | with_reducible refine k_methS ?_
  | with_reducible refine k_meth0 ?_
  | with_reducible refine k_callS ?_
  | with_reducible refine k_callE ?_
  | with_reducible refine k_dget ?_
  | with_reducible refine k_din ?_
  | with_reducible refine k_dnotin ?_
  | with_reducible refine k_dput ?_
  | with_reducible refine k_dpop ?_
  | with_reducible refine k_dget2 ?_
  | with_reducible refine k_tup ?_
  | with_reducible refine k_lst ?_
  | with_reducible refine k_dnew ?_
  | ((with_reducible refine' l_tup ?hx ?_); (case hx => simp only [List.length_cons, List.length_nil]; decide))
  | ((with_reducible refine' l_lst ?hx ?_); (case hx => simp only [List.length_cons, List.length_nil]; decide))
  | ((with_reducible refine' l_isD ?hx ?_); (case hx => wtm_at "hf"))
  | ((with_reducible refine' l_dinI ?hx ?_); (case hx => wtm_at "hf"))
  | ((with_reducible refine' l_dinS ?hx ?_); (case hx => wtm_at "hf"))
  | ((with_reducible refine' l_dnotinI ?hx ?_); (case hx => wtm_at "hf"))
  | ((with_reducible refine' l_dnotinS ?hx ?_); (case hx => wtm_at "hf"))
  | ((with_reducible refine' l_dputI ?hr ?hx ?hz ?hy ?hw ?_); (case hr => assumption); (case hx => wtm_at "hf"); (case hy => wtm_at "pk"); (case hz => wtm_at "sz"); (case hw => wtm_at "wr"); intro _ _ _ _)
  | ((with_reducible refine' l_dputS ?hr ?hx ?hz ?hy ?hw ?_); (case hr => assumption); (case hx => wtm_at "hf"); (case hy => wtm_at "pk"); (case hz => wtm_at "sz"); (case hw => wtm_at "wr"); intro _ _ _ _)
  | ((with_reducible refine' l_dpopI ?hr ?hx ?hz ?hy ?hw ?_); (case hr => assumption); (case hx => wtm_at "hf"); (case hy => wtm_at "pk"); (case hz => wtm_at "vk"); (case hw => wtm_at "wr"); intro _ _ _ _)
  | ((with_reducible refine' l_dpopS ?hr ?hx ?hz ?hy ?hw ?_); (case hr => assumption); (case hx => wtm_at "hf"); (case hy => wtm_at "pk"); (case hz => wtm_at "vk"); (case hw => wtm_at "wr"); intro _ _ _ _)
  | ((with_reducible refine' l_dgetI ?hx ?hz ?_); (case hx => wtm_at "hf"); (case hz => wtm_at "vk"))
  | ((with_reducible refine' l_dgetS ?hx ?hz ?_); (case hx => wtm_at "hf"); (case hz => wtm_at "vk"))
  | ((with_reducible refine' l_dgetIF ?hx ?hz ?_); (case hx => wtm_at "hf"); (case hz => wtm_at "vk"))
  | ((with_reducible refine' l_dgetSF ?hx ?hz ?_); (case hx => wtm_at "hf"); (case hz => wtm_at "vk"))
  | ((with_reducible refine' k_disp ?hr ?_); (case hr => assumption); intro _ _ _ _ _ _ _ _)
  | with_reducible refine k_pcons ?_
  | with_reducible refine k_pnil ?_
  | ((with_reducible refine' l_disp ?hr ?hx ?hu ?hv ?hy ?hw ?_); (case hr => assumption); (case hx => wtm_at "hf"); (case hu => exact rfl); (case hv => simp only [List.length_map, List.length_cons, List.length_nil]; decide); (case hy => wtm_at "rm"); (case hw => wtm_at "wr"); intro _ _ _ _)
  | ((with_reducible refine' l_append ?hr ?hx ?hz ?hw ?_); (case hr => assumption); (case hx => wtm_at "hf"); (case hz => wtm_at "sz"); (case hw => wtm_at "wr"); intro _ _ _ _)
  | ((with_reducible refine' l_isEt ?hx ?_); (case hx => first | exact isD (ExcK.kit (by assumption) _ (by wtm_at "mem") _ (by wtm_at "mem")) | exact isC (ExcK.kit (by assumption) _ (by wtm_at "mem") _ (by wtm_at "mem")) (by decide)))
  | ((with_reducible refine' l_isEV ?hx ?_); (case hx => exact ExcK.kitV (by assumption) _ (by wtm_at "mem")))
  | ((with_reducible refine' l_isiI ?hx ?_); (case hx => first | rfl | assumption))
  | ((with_reducible refine' l_isiB ?hx ?_); (case hx => first | rfl | assumption))
  | ((with_reducible refine' l_isiS ?hx ?_); (case hx => first | rfl | assumption))
  | ((with_reducible refine' l_isiL ?hx ?_); (case hx => wtm_at "hf"))
  | ((with_reducible refine' l_isiT ?hx ?_); (case hx => wtm_at "hf"))
  | ((with_reducible refine' l_lenL ?hx ?_); (case hx => wtm_at "sq"))
  | ((with_reducible refine' l_lenT ?hx ?_); (case hx => wtm_at "st"))
  | ((with_reducible refine' l_ixL ?hx ?hy ?_); (case hx => wtm_at "sq"); (case hy => wtm_at "ix"))
  | ((with_reducible refine' l_ixT ?hx ?hy ?_); (case hx => wtm_at "st"); (case hy => wtm_at "ix"))
  | with_reducible refine k_for ?_
  | with_reducible refine k_rng1 ?_
  | with_reducible refine k_rng2 ?_
  | with_reducible refine k_rng3 ?_
  | with_reducible refine k_makeS ?_
  | ((with_reducible refine' l_make ?hr ?_); (case hr => assumption); intro _ _ _ _ _ _ _ _ _)
  | with_reducible refine k_ntt ?_
  | with_reducible refine k_ntf ?_
  | with_reducible refine k_clear ?_
  | ((with_reducible refine' l_clear ?hr ?hx ?hw ?_); (case hr => assumption); (case hx => wtm_at "hf"); (case hw => wtm_at "wr"); intro _ _ _ _)
  | with_reducible refine k_ift ?_
  | with_reducible refine k_iff ?_
  | with_reducible refine g_name ?_
  | fail)
/-- what a deed on a lot answers, the lot behind it -/
def toldV (L : LS) (word : Str) (now n : Int) : V :=
  if word = "grant" then (if 1 ≤ n ∧ n ≤ 1000000 then .int (L.given + 1) else .str "BadTicks") else match aget L.ends n with
  | none => .str "NoLease"
  | some _ => .non
def toldL (L : LS) (word : Str) (now n : Int) : LS :=
  if word = "grant" then (if 1 ≤ n ∧ n ≤ 1000000 then L.grant now n else L) else match aget L.ends n with
  | none => L
  | some _ => if word = "renew" then L.renew n (now + (aget L.spans n).getD 0) else L.drop n
section
variable {P : Program} {w : World} {K : PySem.W.Frag} {mg : Str → Option Value} {base : Heap}
def sp_l_told (K : PySem.W.Frag) : Sp := fun vs H Q _ => ∃ p ps pe L word now n, vs = [.ref p, .str word, .int now, .int n] ∧ LeasesAt K H p ps pe L ∧ L.spans.length ≤ 1000 ∧ L.ends.length ≤ 1000 ∧
  (∀ k e, aget L.ends k = some e → ∃ t, aget L.spans k = some t) ∧ ∀ H', LeasesAt K H' p ps pe (toldL L word now n) → Ext [p, ps, pe] H H' → Q (toldV L word now n) H'
theorem sc_l_told : FnScope ["_law_lot", "_law_word", "_law_now", "_law_number", "_law_error"] ["_law_lot", "_law_word", "_law_now", "_law_number"] (defScope s_l_told) := ⟨rfl, rfl, rfl, by decide +kernel, rfl, by decide +kernel, by decide +kernel⟩
theorem ok_l_told (T : FX K mg) : FnOk P w K mg base (L2N.CX P w) 3 (He.ga K "_law_told") (fdAt K ("_law_told", none)) ["_law_lot", "_law_word", "_law_now", "_law_number"] (sp_l_told K) := by
  refine FunD.ok T.F_l_told sc_l_told (fun vs H Q E h => ?_) (fun cdv A outer s H vs Q E hr h => ?_)
  · (repeat (obtain ⟨_, h⟩ := h)); subst_vars; rfl
  · have hu := hu_of hr
    have hu64 := hr.units
    refine ⟨_,
      (pss_one
        (L2N.ps_try_as (i := 4) rfl rfl sc_l_told.nd rfl rfl ⟨rfl, by decide, Or.inl T.g_LeaseError⟩ tkd
          (fun W pn xe tk1 po1 =>
            (pss_cons
              (ps_if (pt_cmpR oSeq (pv 1) pe_str (nomark _))
                (pss_one
                  (ps_ret (pe_methS (pv 0) T.cl_Leases T.me_Leases_grant (ok_Leases_grant T) (hr.mono (j := 1) (by decide)) T.b_Leases_grant (fun σ => L2N.passAt tk1 σ) (pa_cons (pv 2) (pa_cons (pv 3) pa_nil)))))
                pss_nil)
            (pss_cons
              (ps_if (pt_cmpR oSeq (pv 1) pe_str (nomark _))
                (pss_one
                  (ps_ret (pe_methS (pv 0) T.cl_Leases T.me_Leases_renew (ok_Leases_renew T) (hr.mono (j := 2) (by decide)) T.b_Leases_renew (fun σ => L2N.passAt tk1 σ) (pa_cons (pv 2) (pa_cons (pv 3) pa_nil)))))
                pss_nil)
            (pss_one
              (ps_ret (pe_methS (pv 0) T.cl_Leases T.me_Leases_drop (ok_Leases_drop T) (hr.mono (j := 2) (by decide)) T.b_Leases_drop (fun σ => L2N.passAt tk1 σ) (pa_cons (pv 3) pa_nil)))))))
          (fun a oe cls d pn hz hf =>
            (pss_cons
              (ps_forN PassesOwn.never (pi_listNS (pe_lst (pa_cons pe_str (pa_cons pe_str pa_nil)))) (pg_name (i := 1) sc_l_told.nd rfl (Or.inl rfl))
                (pss_one
                  (ps_if (pt_val (pe_callES (ok_l_only T) (hr.mono (j := 1) (by decide)) hz hf rfl T.g_l_only T.k_l_only T.b_l_only (pa_cons (pv 4) (pa_cons (pv 1) pa_nil))))
                    (pss_one
                      (ps_ret (pv 1)))
                    pss_nil)))
            (pss_one
              (ps_ret pe_str)))))), ?_⟩
    obtain ⟨p, ps, pe, L, word, now, n, rfl, hL, z1, z2, hk, k⟩ := h
    obtain ⟨⟨dx, hp⟩, hs, he, hne⟩ := id hL
    have R0 : Run [p, ps, pe] H H := Run.start (by wtm_at "lv")
    repeat wtm_at "k"
    refine k_ifd (fun c => ?_) fun c => ?_
    · subst c
      repeat wtm_at "k"
      refine ⟨p, ps, pe, L, now, n, rfl, hL, z1, z2, fun c H' hL' e => ?_, fun c => ?_⟩
      · have e1 : toldV L "grant" now n = .int (L.given + 1) := by unfold toldV; rw [if_pos rfl, if_pos c]
        rw [← e1]
        refine k _ ?_ e
        have e2 : toldL L "grant" now n = L.grant now n := by unfold toldL; rw [if_pos rfl, if_pos c]
        rw [e2]
        exact hL'
      · refine l_wAs T.e_BadTicks fun a na => ?_
        refine k_seq (l_catch (words := ["BadTicks", "NoLease"]) (D0 := "BadTicks") (by decide) (by decide +kernel) (by decide) (fun S h => h) rfl (by decide) (by show 1 < 5; decide) (only_sp (by decide)) fun H' e => ?_)
        have e1 : toldV L "grant" now n = .str "BadTicks" := by unfold toldV; rw [if_pos rfl, if_neg c]
        have e2 : toldL L "grant" now n = L := by unfold toldL; rw [if_pos rfl, if_neg c]
        rw [e1, e2] at k
        exact k _ (hL.ext e (by simp) (by simp) (by simp)) (e.sub (by simp))
    · have miss : aget L.ends n = none → ∀ H', Ext [] H H' → Q (.str "NoLease") H' := fun z H' e => by
        have e1 : toldV L word now n = .str "NoLease" := by unfold toldV; rw [if_neg c, z]
        have e2 : toldL L word now n = L := by unfold toldL; rw [if_neg c, z]
        rw [e1, e2] at k
        exact k _ (hL.ext e (by simp) (by simp) (by simp)) (e.sub (by simp))
      repeat wtm_at "k"
      refine k_ifd (fun c2 => ?_) fun c2 => ?_
      · repeat wtm_at "k"
        refine ⟨p, ps, pe, L, now, n, rfl, hL, z1, z2, fun e ce => ?_, fun ce => ?_⟩
        · obtain ⟨t, ct⟩ := hk _ _ ce
          refine ⟨t, ct, fun H' hL' ee => ?_⟩
          have e1 : toldV L word now n = .non := by unfold toldV; rw [if_neg c, ce]
          have e2 : toldL L word now n = L.renew n (now + t) := by unfold toldL; rw [if_neg c, ce]; show (if _ then _ else _) = _; rw [if_pos c2, ct]; rfl
          rw [e1, e2] at k
          exact k _ hL' ee
        · refine l_wAs T.e_NoLease fun a na => ?_
          exact k_seq (l_catch (words := ["BadTicks", "NoLease"]) (D0 := "NoLease") (by decide) (by decide +kernel) (by decide) (fun S h => h) rfl (by decide) (by show 1 < 5; decide) (only_sp (by decide)) (miss ce))
      · repeat wtm_at "k"
        refine ⟨p, ps, pe, L, n, rfl, hL, fun e ce => ?_, fun ce => ?_⟩
        · obtain ⟨t, ct⟩ := hk _ _ ce
          refine ⟨t, ct, fun H' hL' ee => ?_⟩
          have e1 : toldV L word now n = .non := by unfold toldV; rw [if_neg c, ce]
          have e2 : toldL L word now n = L.drop n := by unfold toldL; rw [if_neg c, ce]; show (if _ then _ else _) = _; rw [if_neg c2]
          rw [e1, e2] at k
          exact k _ hL' ee
        · refine l_wAs T.e_NoLease fun a na => ?_
          exact k_seq (l_catch (words := ["BadTicks", "NoLease"]) (D0 := "NoLease") (by decide) (by decide +kernel) (by decide) (fun S h => h) rfl (by decide) (by show 1 < 5; decide) (only_sp (by decide)) (miss ce))
/-! ### the mirror -/
structure MS where
  given : List Int
  ends : List (Int × Int)
structure MineAt (H : Hp) (m a b c : Addr) (M : MS) (told : List V) : Prop where
  ob : H m = some (.dK (rc_mine (.ref a) (.ref b) (.ref c)))
  gi : H a = some (.lst (M.given.map V.int))
  en : H b = some (.dK (ik iv M.ends))
  to : H c = some (.lst told)
  nb : m ≠ b
  nac : a ≠ c
def dueV (M : MS) (word : Str) (now n : Int) : V :=
  if word = "grant" then (if 1 ≤ n ∧ n ≤ 1000000 then .int (M.given.length + 1) else .str "BadTicks") else match aget M.ends n with
  | none => .str "NoLease"
  | some _ => .non
def dueM (M : MS) (word : Str) (now n : Int) : MS :=
  if word = "grant" then (if 1 ≤ n ∧ n ≤ 1000000 then ⟨M.given ++ [n], aput M.ends (M.given.length + 1) (now + n)⟩ else M) else match aget M.ends n with
  | none => M
  | some _ => if word = "renew" then { M with ends := aput M.ends n (now + M.given.getD (n - 1).toNat 0) } else { M with ends := adrop M.ends n }
def sp_l_due (K : PySem.W.Frag) : Sp := fun vs H Q _ => ∃ m a b c M told word now n, vs = [.ref m, .str word, .int now, .int n] ∧ MineAt H m a b c M told ∧ M.given.length ≤ 900 ∧ M.ends.length ≤ 900 ∧
  (∀ k e, aget M.ends k = some e → 1 ≤ k ∧ k ≤ M.given.length) ∧ ∀ H', MineAt H' m a b c (dueM M word now n) told → Ext [a, b] H H' → Q (dueV M word now n) H'
theorem sc_l_due : FnScope ["_law_lot", "_law_word", "_law_now", "_law_number"] ["_law_lot", "_law_word", "_law_now", "_law_number"] (defScope s_l_due) := ⟨rfl, rfl, rfl, by decide +kernel, rfl, by decide +kernel, by decide +kernel⟩
theorem ok_l_due (T : FX K mg) : FnOk P w K mg base (L2N.CX P w) 1 (He.ga K "_law_due") (fdAt K ("_law_due", none)) ["_law_lot", "_law_word", "_law_now", "_law_number"] (sp_l_due K) := by
  refine FunD.ok T.F_l_due sc_l_due (fun vs H Q E h => ?_) (fun cdv A outer s H vs Q E hr h => ?_)
  · (repeat (obtain ⟨_, h⟩ := h)); subst_vars; rfl
  · have hu := hu_of hr
    have hu64 := hr.units
    refine ⟨_,
      (pss_cons
        (ps_if (pt_cmpR oSeq (pv 1) pe_str (nomark _))
          (pss_cons
            (ps_if (PW.pt (pw_or (pt_cmpR oIlt (pv 3) pe_int (nomark _)) (pw_or1 (pt_cmpR oIgt (pv 3) pe_int (nomark _)))))
              (pss_one
                (ps_ret pe_str))
              pss_nil)
          (pss_cons
            (ps_expr (pe_bm PySem.F.plainAttrs_list PySem.F.slot_list_append PySem.F.type_list_append mt_append (pe_dget hu (pv 0) pe_str (fun _ _ => rfl)) (pa_cons (pv 3) pa_nil)))
          (pss_cons
            (ps_dput hu (pe_dget hu (pv 0) pe_str (fun _ _ => rfl)) (pe_callB oLen (by rfl) T.f_len PySem.boot_len (pa_cons (pe_dget hu (pv 0) pe_str (fun _ _ => rfl)) pa_nil)) (pe_op oIadd (pv 2) (pv 3)) rfl)
          (pss_one
            (ps_ret (pe_callB oLen (by rfl) T.f_len PySem.boot_len (pa_cons (pe_dget hu (pv 0) pe_str (fun _ _ => rfl)) pa_nil)))))))
          pss_nil)
      (pss_cons
        (ps_if (pt_cmp (pc_dnotin hu (pv 3) (pe_dget hu (pv 0) pe_str (fun _ _ => rfl))))
          (pss_one
            (ps_ret pe_str))
          pss_nil)
      (pss_cons
        (ps_if (pt_cmpR oSeq (pv 1) pe_str (nomark _))
          (pss_one
            (ps_dput hu (pe_dget hu (pv 0) pe_str (fun _ _ => rfl)) (pv 3) (pe_op oIadd (pv 2) (pe_ix ix_list (pe_dget hu (pv 0) pe_str (fun _ _ => rfl)) (pe_op oIsub (pv 3) pe_int) (fun _ _ => rfl))) rfl))
          (pss_one
            (ps_expr (pe_dpop1 (pe_dget hu (pv 0) pe_str (fun _ _ => rfl)) (pv 3) ⟨rfl, rfl, rfl, rfl⟩))))
      (pss_one
        (ps_ret pe_non))))), ?_⟩
    obtain ⟨m, a, b, c, M, told, word, now, n, rfl, ⟨h1, h2, h3, h4, n2, nac⟩, z1, z2, hk, k⟩ := h
    have n1 : m ≠ a := by wtm_at "ne"
    have n3 : a ≠ b := by wtm_at "ne"
    have n4 : b ≠ c := by wtm_at "ne"
    have R0 : Run [a, b] H H := Run.start (by wtm_at "lv")
    repeat wtm_at "k"
    refine k_ifd (fun cg => ?_) fun cg => ?_
    · have bad : ¬ (1 ≤ n ∧ n ≤ 1000000) → Q (.str "BadTicks") H := fun z => by
        have e1 : dueV M word now n = .str "BadTicks" := by unfold dueV; rw [if_pos cg, if_neg z]
        have e2 : dueM M word now n = M := by unfold dueM; rw [if_pos cg, if_neg z]
        rw [e1, e2] at k
        exact k _ ⟨h1, h2, h3, h4, n2, nac⟩ (Ext.refl _ _)
      repeat wtm_at "k"
      refine k_ifd (fun c1 => k_ift ?_) fun c1 => ?_
      · repeat wtm_at "k"
        exact bad (by omega)
      repeat wtm_at "k"
      refine k_ifd (fun c2 => ?_) fun c2 => ?_
      · repeat wtm_at "k"
        exact bad (by omega)
      have e1 : dueV M word now n = .int (M.given.length + 1) := by unfold dueV; rw [if_pos cg, if_pos (by omega)]
      have e2 : dueM M word now n = ⟨M.given ++ [n], aput M.ends (M.given.length + 1) (now + n)⟩ := by unfold dueM; rw [if_pos cg, if_pos (by omega)]
      rw [e1, e2] at k
      have e3 : ((M.given.map V.int ++ [V.int n]).length : Int) = M.given.length + 1 := by rw [List.length_append, List.length_map]; rfl
      repeat wtm_at "k"
      rw [e3] at *
      refine k _ ⟨?g1, ?g2, ?g3, ?g4, n2, nac⟩ (Run.ext (by assumption))
      case g1 => wtm_at "hf"
      case g2 => rw [List.map_append]; wtm_at "hf"
      case g3 => wtm_at "hf"
      case g4 => wtm_at "hf"
    · have miss : aget M.ends n = none → Q (.str "NoLease") H := fun z => by
        have e1 : dueV M word now n = .str "NoLease" := by unfold dueV; rw [if_neg cg, z]
        have e2 : dueM M word now n = M := by unfold dueM; rw [if_neg cg, z]
        rw [e1, e2] at k
        exact k _ ⟨h1, h2, h3, h4, n2, nac⟩ (Ext.refl _ _)
      repeat wtm_at "k"
      rw [valV_ik]
      cases ce : aget M.ends n with
      | none =>
        refine k_ift ?_
        repeat wtm_at "k"
        exact miss ce
      | some e =>
        refine k_iff ?_
        obtain ⟨i1, i2⟩ := hk _ _ ce
        repeat wtm_at "k"
        refine k_ifd (fun c2 => ?_) fun c2 => ?_
        · have e1 : dueV M word now n = .non := by unfold dueV; rw [if_neg cg, ce]
          have e2 : dueM M word now n = { M with ends := aput M.ends n (now + M.given.getD (n - 1).toNat 0) } := by unfold dueM; rw [if_neg cg, ce]; show (if _ then _ else _) = _; rw [if_pos c2]
          rw [e1, e2] at k
          repeat wtm_at "k"
          refine l_ixL (SqL.of h2) (atI_map (d := 0) (by omega) (by omega)) ?_
          repeat wtm_at "k"
          refine k _ ⟨?g1, ?g2, ?g3, ?g4, n2, nac⟩ (Run.ext (by assumption))
          case g1 => wtm_at "hf"
          case g2 => wtm_at "hf"
          case g3 => wtm_at "hf"
          case g4 => wtm_at "hf"
        · have e1 : dueV M word now n = .non := by unfold dueV; rw [if_neg cg, ce]
          have e2 : dueM M word now n = { M with ends := adrop M.ends n } := by unfold dueM; rw [if_neg cg, ce]; show (if _ then _ else _) = _; rw [if_neg c2]
          rw [e1, e2] at k
          repeat wtm_at "k"
          refine k _ ⟨?g1, ?g2, ?g3, ?g4, n2, nac⟩ (Run.ext (by assumption))
          case g1 => wtm_at "hf"
          case g2 => wtm_at "hf"
          case g3 => wtm_at "hf"
          case g4 => wtm_at "hf"
end
end LW

set_option maxHeartbeats 4000000
namespace LW
open PySem PySem.Spec PyProof.Rows L2
local macro_rules | `(tactic| wtm_at "vk") => `(tactic| first
  | assumption
  | with_reducible exact rv_mine_given
  | with_reducible exact rv_mine_ends
  | with_reducible exact rv_mine_told
  | exact valV_iv (by assumption)
  | fail)
local macro_rules | `(tactic| wtm_at "pk") => `(tactic| first
  | with_reducible exact putK_iv
  | with_reducible exact dropK_ik
  | with_reducible exact dropK_sk
  | with_reducible exact rp_mine_given
  | with_reducible exact rp_mine_ends
  | with_reducible exact rp_mine_told
  | assumption
  | fail)
local macro_rules | `(tactic| wtm_at "rm") => `(tactic| first
  | with_reducible exact rm_mine
  | exact rfl
  | fail)
local macro_rules | `(tactic| wtm_at "rl") => `(tactic| first
  | with_reducible exact rl_mine
  | with_reducible assumption
  | fail)
local macro_rules | `(tactic| wtm_at "lk") => `(tactic| with_reducible first
  | exact lk_Leases_given
  | exact lk_Leases_spans
  | exact lk_Leases_ends
  | fail)
local macro_rules | `(tactic| wtm_at "lm") => `(tactic| with_reducible first
  | exact lm_Leases_grant
  | exact lm_Leases_need
  | exact lm_Leases_renew
  | exact lm_Leases_drop
  | exact lm_Leases_due
  | fail)
local macro_rules | `(tactic| wtm_at "pt") => `(tactic| with_reducible first
  | exact pt_Leases_given
  | exact pt_Leases_spans
  | exact pt_Leases_ends
  | exact pi_Leases_0
  | exact pi_Leases_1
  | exact pi_Leases_2
  | fail)
local macro_rules | `(tactic| wtm_at "lz") => `(tactic| with_reducible first
  | exact lz_Leases
  | (simp only [List.length_cons, List.length_nil]; decide)
  | exact (by decide)
  | fail)
local macro_rules | `(tactic| wtm_at "hf") => `(tactic| first
  | assumption
  | (refine' hf_s ?hs ?hx; (case hs => assumption); (case hx => wtm_at "hf"))
  | (refine' hf_n ?hs ?hx ?ne; (case hs => assumption); (case hx => wtm_at "hf"); (case ne => wtm_at "ne"))
  | (refine' hf_e ?hs ?hx ?hy; (case hs => assumption); (case hx => wtm_at "hf"); (case hy => wtm_at "nin"))
  | fail)
local macro_rules | `(tactic| wtm_at "ne") => `(tactic| first
  | assumption
  | (apply Ne.symm; assumption)
  | (refine' ne_of_none ?hx ?hy; (case hy => assumption); (case hx => wtm_at "hf"))
  | (refine' (ne_of_none ?hx ?hy).symm; (case hy => assumption); (case hx => wtm_at "hf"))
  | (refine' ne_of ?hx ?hy ?hz; (case hx => assumption); (case hy => assumption); (case hz => intro z; cases z))
  | fail)
local macro_rules | `(tactic| wtm_at "nin") => `(tactic| first
  | assumption
  | exact notin_nil
  | (refine' notin_cons ?hx ?hy; (case hx => wtm_at "ne"); (case hy => wtm_at "nin"))
  | fail)
local macro_rules | `(tactic| wtm_at "mem") => `(tactic| first
  | assumption
  | exact List.mem_cons_self
  | (refine' List.mem_cons_of_mem _ ?hx; (case hx => wtm_at "mem"))
  | fail)
local macro_rules | `(tactic| wtm_at "wr") => `(tactic| first
  | exact Or.inr (by assumption)
  | exact Or.inl (by wtm_at "mem")
  | fail)
local macro_rules | `(tactic| wtm_at "lv") => `(tactic| first
  | assumption
  | exact Live.nil
  | (refine' Live.cons ?hx ?hy; (case hx => wtm_at "hf"); (case hy => wtm_at "lv"))
  | fail)
local macro_rules | `(tactic| wtm_at "sq") => `(tactic| first
  | assumption
  | (refine' Run.seq ?hx ?hy; (case hx => assumption); (case hy => assumption))
  | (refine' SqL.of ?hx; (case hx => wtm_at "hf"))
  | (refine' Same.seq ?hx ?hy; (case hx => assumption); (case hy => wtm_at "sq"))
  | (refine' Ext.seqL ?hx ?hz ?hy; (case hx => assumption); (case hy => wtm_at "sq"); (case hz => wtm_at "nin"))
  | fail)
local macro_rules | `(tactic| wtm_at "st") => `(tactic| first
  | assumption
  | (refine' SqT.of ?hx; (case hx => wtm_at "hf"))
  | fail)
local macro_rules | `(tactic| wtm_at "ix") => `(tactic| first
  | assumption
  | exact rfl
  | fail)
local macro_rules | `(tactic| wtm_at "sz") => `(tactic| first
  | wtm_at "rl"
  | with_reducible assumption
  | (rw [ik_len]; wtm_at "sz")
  | (rw [sk_len]; wtm_at "sz")
  | exact small1000 (by assumption)
  | exact small1000 (by omega)
  | exact small1000 (by simp only [List.length_cons, List.length_nil, List.length_append, List.length_map]; omega)
  | fail)
local macro_rules | `(tactic| wtm_at "k") => `(tactic| first
  | with_reducible refine k_seq ?_
  | with_reducible refine k_next ?_
  | with_reducible refine k_asg ?_
  | with_reducible refine k_ret ?_
  | with_reducible refine k_retN ?_
  | with_reducible refine k_drop ?_
  | with_reducible refine k_ifS ?_
  | ((with_reducible refine' k_var ?hx ?_); (case hx => exact rfl))
  | with_reducible refine k_c ?_
  | with_reducible refine k_negc ?_
  | with_reducible refine k_neg ?_
  | with_reducible refine l_neg ?_
  | with_reducible refine k_op ?_
  | with_reducible refine k_cb ?_
  | with_reducible refine k_nil ?_
  | with_reducible refine k_cons ?_
  | with_reducible refine k_test ?_
  | with_reducible refine k_B ?_
  | with_reducible refine k_not ?_
  | with_reducible refine k_and ?_
  | with_reducible refine k_or ?_
  | with_reducible refine k_notV ?_
  | with_reducible refine k_andV ?_
  | with_reducible refine k_orV ?_
  | with_reducible refine k_bl ?_
  | with_reducible refine k_add ?_
  | with_reducible refine k_sub ?_
  | ((with_reducible refine' k_mod ?hx ?_); (case hx => first | decide | omega))
  | ((with_reducible refine' k_div ?hx ?_); (case hx => exact ⟨by decide, by decide⟩))
  | ((with_reducible refine' k_mul ?hx ?_); (case hx => first | exact Or.inl ⟨by decide, by decide⟩ | exact Or.inr ⟨by decide, by decide⟩ | exact Or.inl ⟨by omega, by omega⟩))
  | with_reducible refine k_p6 ?_
  | with_reducible refine k_p9 ?_
  | with_reducible refine k_p12 ?_
  | with_reducible refine k_p13 ?_
  | with_reducible refine k_p18 ?_
  | with_reducible refine k_p30 ?_
  | with_reducible refine k_lt ?_
  | with_reducible refine k_le ?_
  | with_reducible refine k_gt ?_
  | with_reducible refine k_ge ?_
  | with_reducible refine k_eq ?_
  | with_reducible refine k_ne ?_
  | with_reducible refine k_seqS ?_
  | with_reducible refine k_neS ?_
  | with_reducible refine k_neB ?_
  | with_reducible refine k_isN ?_
  | with_reducible refine k_noN ?_
  | with_reducible refine k_fld ?_
  | ((with_reducible refine' l_fld ?hx ?hy ?_); (case hx => wtm_at "hf"); (case hy => wtm_at "lk"))
  | with_reducible refine k_fldS ?_
  | ((with_reducible refine' l_fldS ?hr ?hx ?hz ?hy ?hw ?_); (case hr => assumption); (case hx => wtm_at "hf"); (case hy => wtm_at "pt"); (case hz => wtm_at "lz"); (case hw => wtm_at "wr"); intro _ _ _ _)
  | ((with_reducible refine' l_new ?hr ?_); (case hr => assumption); intro _ _ _ _ _ _ _ _)
  | with_reducible refine k_append ?_
  | ((with_reducible refine' l_tyL ?hx ?_); (case hx => wtm_at "hf"))
  | ((with_reducible refine' l_ins ?hx ?hy ?_); (case hx => wtm_at "hf"); (case hy => wtm_at "lm"))
  | with_reducible refine k_methS ?_
  | with_reducible refine k_meth0 ?_
  | with_reducible refine k_callS ?_
  | with_reducible refine k_callE ?_
  | with_reducible refine k_dget ?_
  | with_reducible refine k_din ?_
  | with_reducible refine k_dnotin ?_
  | with_reducible refine k_dput ?_
  | with_reducible refine k_dpop ?_
  | with_reducible refine k_dget2 ?_
  | with_reducible refine k_tup ?_
  | with_reducible refine k_lst ?_
  | with_reducible refine k_dnew ?_
  | ((with_reducible refine' l_tup ?hx ?_); (case hx => simp only [List.length_cons, List.length_nil]; decide))
  | ((with_reducible refine' l_lst ?hx ?_); (case hx => simp only [List.length_cons, List.length_nil]; decide))
  | ((with_reducible refine' l_isD ?hx ?_); (case hx => wtm_at "hf"))
  | ((with_reducible refine' l_dinI ?hx ?_); (case hx => wtm_at "hf"))
  | ((with_reducible refine' l_dinS ?hx ?_); (case hx => wtm_at "hf"))
  | ((with_reducible refine' l_dnotinI ?hx ?_); (case hx => wtm_at "hf"))
  | ((with_reducible refine' l_dnotinS ?hx ?_); (case hx => wtm_at "hf"))
  | ((with_reducible refine' l_dputI ?hr ?hx ?hz ?hy ?hw ?_); (case hr => assumption); (case hx => wtm_at "hf"); (case hy => wtm_at "pk"); (case hz => wtm_at "sz"); (case hw => wtm_at "wr"); intro _ _ _ _)
  | ((with_reducible refine' l_dputS ?hr ?hx ?hz ?hy ?hw ?_); (case hr => assumption); (case hx => wtm_at "hf"); (case hy => wtm_at "pk"); (case hz => wtm_at "sz"); (case hw => wtm_at "wr"); intro _ _ _ _)
  | ((with_reducible refine' l_dpopI ?hr ?hx ?hz ?hy ?hw ?_); (case hr => assumption); (case hx => wtm_at "hf"); (case hy => wtm_at "pk"); (case hz => wtm_at "vk"); (case hw => wtm_at "wr"); intro _ _ _ _)
  | ((with_reducible refine' l_dpopS ?hr ?hx ?hz ?hy ?hw ?_); (case hr => assumption); (case hx => wtm_at "hf"); (case hy => wtm_at "pk"); (case hz => wtm_at "vk"); (case hw => wtm_at "wr"); intro _ _ _ _)
  | ((with_reducible refine' l_dgetI ?hx ?hz ?_); (case hx => wtm_at "hf"); (case hz => wtm_at "vk"))
  | ((with_reducible refine' l_dgetS ?hx ?hz ?_); (case hx => wtm_at "hf"); (case hz => wtm_at "vk"))
  | ((with_reducible refine' l_dgetIF ?hx ?hz ?_); (case hx => wtm_at "hf"); (case hz => wtm_at "vk"))
  | ((with_reducible refine' l_dgetSF ?hx ?hz ?_); (case hx => wtm_at "hf"); (case hz => wtm_at "vk"))
  | ((with_reducible refine' k_disp ?hr ?_); (case hr => assumption); intro _ _ _ _ _ _ _ _)
  | with_reducible refine k_pcons ?_
  | with_reducible refine k_pnil ?_
  | ((with_reducible refine' l_disp ?hr ?hx ?hu ?hv ?hy ?hw ?_); (case hr => assumption); (case hx => wtm_at "hf"); (case hu => exact rfl); (case hv => simp only [List.length_map, List.length_cons, List.length_nil]; decide); (case hy => wtm_at "rm"); (case hw => wtm_at "wr"); intro _ _ _ _)
  | ((with_reducible refine' l_append ?hr ?hx ?hz ?hw ?_); (case hr => assumption); (case hx => wtm_at "hf"); (case hz => wtm_at "sz"); (case hw => wtm_at "wr"); intro _ _ _ _)
  | ((with_reducible refine' l_isEt ?hx ?_); (case hx => first | exact isD (ExcK.kit (by assumption) _ (by wtm_at "mem") _ (by wtm_at "mem")) | exact isC (ExcK.kit (by assumption) _ (by wtm_at "mem") _ (by wtm_at "mem")) (by decide)))
  | ((with_reducible refine' l_isEV ?hx ?_); (case hx => exact ExcK.kitV (by assumption) _ (by wtm_at "mem")))
  | ((with_reducible refine' l_isiI ?hx ?_); (case hx => first | rfl | assumption))
  | ((with_reducible refine' l_isiB ?hx ?_); (case hx => first | rfl | assumption))
  | ((with_reducible refine' l_isiS ?hx ?_); (case hx => first | rfl | assumption))
  | ((with_reducible refine' l_isiL ?hx ?_); (case hx => wtm_at "hf"))
  | ((with_reducible refine' l_isiT ?hx ?_); (case hx => wtm_at "hf"))
  | ((with_reducible refine' l_lenL ?hx ?_); (case hx => wtm_at "sq"))
  | ((with_reducible refine' l_lenT ?hx ?_); (case hx => wtm_at "st"))
  | ((with_reducible refine' l_ixL ?hx ?hy ?_); (case hx => wtm_at "sq"); (case hy => wtm_at "ix"))
  | ((with_reducible refine' l_ixT ?hx ?hy ?_); (case hx => wtm_at "st"); (case hy => wtm_at "ix"))
  | with_reducible refine k_for ?_
  | with_reducible refine k_rng1 ?_
  | with_reducible refine k_rng2 ?_
  | with_reducible refine k_rng3 ?_
  | with_reducible refine k_makeS ?_
  | ((with_reducible refine' l_make ?hr ?_); (case hr => assumption); intro _ _ _ _ _ _ _ _ _)
  | with_reducible refine k_ntt ?_
  | with_reducible refine k_ntf ?_
  | with_reducible refine k_clear ?_
  | ((with_reducible refine' l_clear ?hr ?hx ?hw ?_); (case hr => assumption); (case hx => wtm_at "hf"); (case hw => wtm_at "wr"); intro _ _ _ _)
  | with_reducible refine k_ift ?_
  | with_reducible refine k_iff ?_
  | with_reducible refine g_name ?_
  | fail)
local macro_rules | `(tactic| wtm_at "k") => `(tactic| first
  | with_reducible refine k_wholeI ?_
  | ((with_reducible refine' k_whole ?hx ?_); (case hx => first | rfl | assumption))
  | ((with_reducible refine' k_cell ?hx ?hy ?_); (case hx => first | decide | omega | assumption); (case hy => wtm_at "sq"))
  | fail)
section
variable {P : Program} {w : World} {K : PySem.W.Frag} {mg : Str → Option Value} {base : Heap}
def rawDue (es : List (Int × Int)) (til : Int) : List (Int × Int) := (es.filter fun p => decide (p.2 ≤ til)).map fun p => (p.2, p.1)
theorem fP_plain (p : Int × Int) : (fP p).all plainV = true := rfl
def sp_l_ending (K : PySem.W.Frag) : Sp := fun vs H Q _ => ∃ f m a b c M til ys, vs = [.ref f, .ref m, .int til] ∧ MineAt H m a b c M [] ∧ H f = some (.lst ys) ∧ Paired (IsP H) ys (sortP (rawDue M.ends til)) ∧ M.ends.length ≤ 900 ∧ (M.ends.map (·.1)).Nodup ∧ a ≠ f ∧
  ∀ H', MineAt H' m a b f M [] → Ext [m, f] H H' → Q (.bl true) H'
theorem sc_l_ending : FnScope ["_law_found", "_law_lot", "_law_until", "_law_due_here", "_law_one", "_law_good", "_law_lease"] ["_law_found", "_law_lot", "_law_until"] (defScope s_l_ending) := ⟨rfl, rfl, rfl, by decide +kernel, rfl, by decide +kernel, by decide +kernel⟩
theorem ok_l_ending (T : FX K mg) : FnOk P w K mg base (L2N.CX P w) 2 (He.ga K "_law_ending") (fdAt K ("_law_ending", none)) ["_law_found", "_law_lot", "_law_until"] (sp_l_ending K) := by
  refine FunD.ok T.F_l_ending sc_l_ending (fun vs H Q E h => ?_) (fun cdv A outer s H vs Q E hr h => ?_)
  · (repeat (obtain ⟨_, h⟩ := h)); subst_vars; rfl
  · have hu := hu_of hr
    have hu64 := hr.units
    refine ⟨_,
      (pss_cons
        (ps_set (i := 3) sc_l_ending.nd rfl (Or.inl rfl) (pe_callB cr_sortedPO (by rfl) T.f_sorted (by decide +kernel) (pa_cons (pe_lock (pe_lc (own := [("_law_lease", 6)]) (g := gName 6) rfl sc_l_ending.nd (pi_keys (pe_dget hu (pv 1) pe_str (fun _ _ => rfl))) (blkOk_by (N := ["_law_found", "_law_lot", "_law_until", "_law_due_here", "_law_one", "_law_good", "_law_lease"]) (sc := defScope s_l_ending) (by decide +kernel)) (fun _ _ _ _ _ => (pg_name (i := 6) sc_l_ending.nd rfl (Or.inl rfl))) (fun _ _ _ _ _ => (pts_one (pt_cmpR oIle (pe_dget hu (pe_dget hu (pv 1) pe_str (fun _ _ => rfl)) (pv 6) (fun _ _ => rfl)) (pv 2) (nomark _)))) (fun _ _ _ _ _ => (pe_tup (pa_cons (pe_dget hu (pe_dget hu (pv 1) pe_str (fun _ _ => rfl)) (pv 6) (fun _ _ => rfl)) (pa_cons (pv 6) pa_nil)))))) pa_nil)))
      (pss_cons
        (ps_if (PW.pt (pw_or (pt_not (pt_val (pe_callB call_isi (by rfl) T.f_isinstance (by decide +kernel) (pa_cons (pv 0) (pa_cons (pe_bltT (n := "list") rfl T.f_list (by decide +kernel)) pa_nil))))) (pw_or (pt_cmpR oIne (pe_callB oLen (by rfl) T.f_len PySem.boot_len (pa_cons (pv 0) pa_nil)) (pe_callB oLen (by rfl) T.f_len PySem.boot_len (pa_cons (pv 3) pa_nil)) (nomark _)) (pw_or1 (pt_cmpR (op_neD hu64) (pe_dget hu (pv 1) pe_str (fun _ _ => rfl)) (pe_lst pa_nil) (nomark _))))))
          (pss_one
            (ps_ret pe_bl))
          pss_nil)
      (pss_cons
        (ps_for pod rfl (pi_list (pv 0)) (pg_name (i := 4) sc_l_ending.nd rfl (Or.inl rfl))
          (pss_one
            (ps_if (PW.pt (pw_or (pt_not (pt_val (pe_callB call_isi (by rfl) T.f_isinstance (by decide +kernel) (pa_cons (pv 4) (pa_cons (pe_bltT (n := "tuple") rfl T.f_tuple (by decide +kernel)) pa_nil))))) (pw_or (pt_cmpR oIne (pe_callB oLen (by rfl) T.f_len PySem.boot_len (pa_cons (pv 4) pa_nil)) pe_int (nomark _)) (pw_or (pt_not (pt_val (pe_callS (ok_l_whole T) (hr.mono (j := 1) (by decide)) rfl T.g_l_whole T.k_l_whole T.b_l_whole (fun σ => L2N.passAt tkd σ) (pa_cons (pe_ix ix_tup (pv 4) pe_int (fun _ _ => rfl)) pa_nil)))) (pw_or1 (pt_not (pt_val (pe_callS (ok_l_whole T) (hr.mono (j := 1) (by decide)) rfl T.g_l_whole T.k_l_whole T.b_l_whole (fun σ => L2N.passAt tkd σ) (pa_cons (pe_ix ix_tup (pv 4) pe_int (fun _ _ => rfl)) pa_nil)))))))))
              (pss_one
                (ps_ret pe_bl))
              pss_nil)))
      (pss_cons
        (ps_set (i := 5) sc_l_ending.nd rfl (Or.inl rfl) (pe_cmpR (op_eqD hu64) (pv 0) (pv 3) (nomark _)))
      (pss_cons
        (ps_expr (pe_bm0 PySem.F.plainAttrs_list PySem.F.slot_list_clear PySem.F.type_list_clear mt_clear (pv 0)))
      (pss_cons
        (ps_dput hu (pv 1) pe_str (pv 0) rfl)
      (pss_one
        (ps_ret (pv 5))))))))), ?_⟩
    obtain ⟨f, m, a, b, c, M, til, ys, rfl, ⟨h1, h2, h3, h4, n2, nac⟩, hf, hy, z, nd, naf, k⟩ := h
    have n1 : m ≠ a := by wtm_at "ne"
    have n3 : a ≠ b := by wtm_at "ne"
    have n4 : b ≠ c := by wtm_at "ne"
    have n5 : f ≠ m := by wtm_at "ne"
    have n6 : f ≠ b := by wtm_at "ne"
    have R0 : Run [m, f] H H := Run.start (by wtm_at "lv")
    have ze : (ik iv M.ends).length < sizeLine := by wtm_at "sz"
    repeat wtm_at "k"
    refine lc_keysI (j := 6) h3 ze (fun od R hR => ?_) (fun m acc H' => Paired (IsP H') acc ((m.filter fun q : Int × Int => decide (q.2 ≤ til)).map fun q : Int × Int => (q.2, q.1)))
      .nil (fun m acc H1 H2 t h => keepP t h) (fun i p1 od acc H1 R R0 el hf hk hl hP q1 q0 => ?_) (fun D H' acc nD e hD lD hP => ?_)
    · have a1 : upd H b (.frz od (.dK (ik iv M.ends))) m = some _ := (upd_ne n2).trans h1
      repeat wtm_at "k"
      exact hR
    · have ge : aget M.ends p1.1 = some p1.2 := aget_of_mem nd (List.mem_of_getElem? el)
      have a1 := hk _ _ n2 h1
      have R1 : Run [] H1 H1 := Run.start Live.nil
      repeat wtm_at "k"
      refine k_ifd (fun c => ?_) fun c => ?_
      · repeat wtm_at "k"
        refine q1 _ _ (Run.ext (by assumption)) ?_
        rw [List.filter_append, List.map_append, List.filter_cons, if_pos (decide_eq_true c)]
        exact pmapP (keepP (Run.ext (by assumption)).tups hP) ⟨_, rfl, by wtm_at "hf"⟩
      · refine q0 _ (Ext.refl _ _) ?_
        rw [List.filter_append, List.map_append, List.filter_cons, if_neg (by simpa using c)]
        simpa using hP
    · have b1 := e.keep _ _ h1 (by simp)
      have b2 := e.keep _ _ h2 (by simp)
      have b3 := e.keep _ _ h3 (by simp)
      have b4 := e.keep _ _ h4 (by simp)
      have b5 := e.keep _ _ hf (by simp)
      have R1 : Run [m, f] H H' := R0.same e
      repeat wtm_at "k"
      refine l_sortedP R1 hD hP fun l H2 zs f1 f2 f3 r2 g2 s2 p2 => ?_
      have hy2 := keepP (TupK.trans e.tups fun a xs z => s2 _ _ z) hy
      have len : ys.length = zs.length := by rw [Paired.length hy2, Paired.length p2]; rfl
      repeat wtm_at "k"
      refine k_ifnd (fun c => absurd (congrArg Nat.cast len) c) fun _ => ?_
      repeat wtm_at "k"
      refine l_neN (by wtm_at "sq") (by wtm_at "sq") ?_
      repeat wtm_at "k"
      rename_i p3 H3 e3 _ _ r3 _ s3
      have hy3 := keepP (fun a xs z => s3 _ _ z) hy2
      have p3 := keepP (fun a xs z => s3 _ _ z) p2
      have c5 : H3 f = some (.lst ys) := by wtm_at "hf"
      refine l_for (xs := ys) (SqL.of c5) (fun i σ' H4 => H4 = H3 ∧ ∃ v4 v5 v6, σ' = [some (.ref f), some (.ref m), some (.int til), some (.ref l), v4, v5, v6]) ⟨rfl, _, _, _, rfl⟩ (fun i σ' H4 _ q => q.1 ▸ SqL.of c5) (fun i x σ' H4 ex q => ?_) fun σ' H4 q => ?_
      · obtain ⟨rfl, v4, v5, v6, rfl⟩ := q
        obtain ⟨⟨u1, u2⟩, eu, t, rfl, ht⟩ := getT hy3 ex
        have st : SqT K H4 t [.int u1, .int u2] := SqT.of ht
        repeat wtm_at "k"
        refine k_ifnd (fun z => absurd (show ((2 : Nat) : Int) = 2 from rfl) z) fun _ => ?_
        repeat wtm_at "k"
        exact ⟨rfl, _, _, _, rfl⟩
      · obtain ⟨rfl, v4, v5, v6, rfl⟩ := q
        repeat wtm_at "k"
        refine l_eqT fP_plain (by wtm_at "sq") (by wtm_at "sq") hy3 p3 ?_
        repeat wtm_at "k"
        refine k _ ⟨?g1, ?g2, ?g3, ?g4, n2, naf⟩ (Run.ext (by assumption))
        case g1 => wtm_at "hf"
        case g2 => wtm_at "hf"
        case g3 => wtm_at "hf"
        case g4 => wtm_at "hf"
end
end LW

set_option maxHeartbeats 4000000
namespace LW
open PySem PySem.Spec PyProof.Rows L2
/-! ### the lot and its mirror, plainly -/
structure Jn (L : LS) (M : MS) : Prop where
  gi : L.given = M.given.length
  en : L.ends = M.ends
  nd : (M.ends.map (·.1)).Nodup
  sp : ∀ k e, aget M.ends k = some e → ∃ t, aget L.spans k = some t ∧ 1 ≤ k ∧ k ≤ M.given.length ∧ M.given.getD (k - 1).toNat 0 = t
  l1 : M.ends.length ≤ M.given.length
  l2 : L.spans.length ≤ M.given.length
theorem jn_new : Jn LS.new ⟨[], []⟩ := ⟨rfl, rfl, List.nodup_nil, fun _ _ h => (by cases h), Nat.le_refl _, Nat.le_refl _⟩
theorem jn_step {L : LS} {M : MS} (J : Jn L M) (word : Str) (now n : Int) : Jn (toldL L word now n) (dueM M word now n) ∧ toldV L word now n = dueV M word now n ∧ (dueM M word now n).given.length ≤ M.given.length + 1 := by
  obtain ⟨gi, en, nd, sp, l1, l2⟩ := J
  unfold toldL dueM toldV dueV
  by_cases c : word = "grant"
  · rw [if_pos c, if_pos c, if_pos c, if_pos c]
    by_cases r : 1 ≤ n ∧ n ≤ 1000000
    · rw [if_pos r, if_pos r, if_pos r, if_pos r]
      refine ⟨⟨?_, ?_, ?_, ?_, ?_, ?_⟩, ?_, ?_⟩
      · show L.given + 1 = _
        rw [gi, List.length_append]; rfl
      · show aput L.ends (L.given + 1) (now + n) = _
        rw [gi, en]
      · exact nodup_aput nd
      · intro k e h
        show ∃ t, aget (aput L.spans (L.given + 1) n) k = some t ∧ 1 ≤ k ∧ k ≤ ((M.given ++ [n]).length : Int) ∧ (M.given ++ [n]).getD (k - 1).toNat 0 = t
        rw [List.length_append, aget_aput]
        rw [aget_aput] at h
        by_cases z : (M.given.length : Int) + 1 = k
        · rw [gi, if_pos z]
          refine ⟨n, rfl, by omega, by simp; omega, ?_⟩
          have : (k - 1).toNat = M.given.length := by omega
          rw [this]; simp
        · rw [if_neg z] at h
          obtain ⟨t, h1, h2, h3, h4⟩ := sp k e h
          rw [gi, if_neg z]
          refine ⟨t, h1, h2, by simp; omega, ?_⟩
          have : (k - 1).toNat < M.given.length := by omega
          rw [List.getD_eq_getElem?_getD, List.getElem?_append_left this, ← List.getD_eq_getElem?_getD]
          exact h4
      · have := length_aput (l := M.ends) (k := (M.given.length : Int) + 1) (v := now + n)
        show (aput M.ends _ _).length ≤ (M.given ++ [n]).length
        rw [List.length_append]; simp; omega
      · have := length_aput (l := L.spans) (k := L.given + 1) (v := n)
        show (aput L.spans _ _).length ≤ (M.given ++ [n]).length
        rw [List.length_append]; simp; omega
      · rw [gi]
      · rw [List.length_append]; simp
    · rw [if_neg r, if_neg r, if_neg r, if_neg r]
      exact ⟨⟨gi, en, nd, sp, l1, l2⟩, by first | rfl | trivial, Nat.le_succ _⟩
  · rw [if_neg c, if_neg c, if_neg c, if_neg c, en]
    cases ce : aget M.ends n with
    | none => exact ⟨⟨gi, en, nd, sp, l1, l2⟩, by first | rfl | trivial, Nat.le_succ _⟩
    | some e =>
      obtain ⟨t0, g1, g2, g3, g4⟩ := sp _ _ ce
      by_cases c2 : word = "renew"
      · simp only [if_pos c2]
        refine ⟨⟨gi, ?_, nodup_aput nd, ?_, ?_, l2⟩, by first | rfl | trivial, Nat.le_succ _⟩
        · show aput L.ends n (now + (aget L.spans n).getD 0) = _
          rw [g1, g4, en]; rfl
        · intro k e2 h
          have h : aget (aput M.ends n (now + M.given.getD (n - 1).toNat 0)) k = some e2 := h
          rw [aget_aput] at h
          by_cases z : n = k
          · subst z; exact ⟨t0, g1, g2, g3, g4⟩
          · rw [if_neg z] at h; exact sp _ _ h
        · show (aput M.ends n _).length ≤ _
          have := keys_aput_old (v := now + M.given.getD (n - 1).toNat 0) ce
          have q := congrArg List.length this
          rw [List.length_map, List.length_map] at q
          rw [q]; exact l1
      · simp only [if_neg c2]
        refine ⟨⟨gi, ?_, nodup_adrop nd, ?_, Nat.le_trans length_adrop l1, Nat.le_trans length_adrop l2⟩, by first | rfl | trivial, Nat.le_succ _⟩
        · show adrop L.ends n = _
          rw [en]
        · intro k e2 h
          have h : aget (adrop M.ends n) k = some e2 := h
          rw [aget_adrop] at h
          by_cases z : n = k
          · rw [if_pos z] at h; cases h
          · rw [if_neg z] at h
            obtain ⟨t, h1, h2⟩ := sp _ _ h
            refine ⟨t, ?_, h2⟩
            show aget (adrop L.spans n) k = some t
            rw [aget_adrop, if_neg z]; exact h1
theorem dueV_plain (M : MS) (word : Str) (now n : Int) : plainV (dueV M word now n) = true ∧ (∀ b, dueV M word now n ≠ .bl b) ∧ simpV (dueV M word now n) = true := by
  unfold dueV
  split
  · split
    · exact ⟨rfl, fun b z => (by cases z), rfl⟩
    · exact ⟨by decide +kernel, fun b z => (by cases z), rfl⟩
  · cases aget M.ends n with
    | none => exact ⟨by decide +kernel, fun b z => (by cases z), rfl⟩
    | some e => exact ⟨rfl, fun b z => (by cases z), rfl⟩
/-! ### two lots in the heap -/
structure LA where
  p : Addr
  ps : Addr
  pe : Addr
  m : Addr
  a : Addr
  b : Addr
  c : Addr
def foot (X : LA) : List Addr := [X.p, X.ps, X.pe, X.m, X.a, X.b, X.c]
structure Lot (K : PySem.W.Frag) (H : Hp) (X : LA) (L : LS) (M : MS) : Prop where
  le : LeasesAt K H X.p X.ps X.pe L
  mi : MineAt H X.m X.a X.b X.c M []
  nd : (foot X).Nodup
theorem MineAt.ext {H H' : Hp} {m a b c : Addr} {M : MS} {t : List V} {F : List Addr} (h : MineAt H m a b c M t) (e : Ext F H H') (h1 : m ∉ F) (h2 : a ∉ F) (h3 : b ∉ F) (h4 : c ∉ F) : MineAt H' m a b c M t :=
  ⟨e.keep _ _ h.ob h1, e.keep _ _ h.gi h2, e.keep _ _ h.en h3, e.keep _ _ h.to h4, h.nb, h.nac⟩
theorem Lot.ext {K : PySem.W.Frag} {H H' : Hp} {X : LA} {L : LS} {M : MS} {F : List Addr} (l : Lot K H X L M) (e : Ext F H H') (d : Apart (foot X) F) : Lot K H' X L M :=
  ⟨l.le.ext e (d _ (by simp [foot])) (d _ (by simp [foot])) (d _ (by simp [foot])), l.mi.ext e (d _ (by simp [foot])) (d _ (by simp [foot])) (d _ (by simp [foot])) (d _ (by simp [foot])), l.nd⟩
theorem Lot.live {K : PySem.W.Frag} {H : Hp} {X : LA} {L : LS} {M : MS} (l : Lot K H X L M) : ∀ c ∈ foot X, H c ≠ none := by
  obtain ⟨⟨⟨dx, h1⟩, h2, h3, _⟩, ⟨h4, h5, h6, h7, _, _⟩, _⟩ := l
  intro c hc
  simp only [foot, List.mem_cons, List.not_mem_nil, or_false] at hc
  rcases hc with rfl | rfl | rfl | rfl | rfl | rfl | rfl <;> simp [*]
def setB {α : Type} (b : Bool) (x : α) (f : Bool → α) : Bool → α := fun b' => if b' = b then x else f b'
theorem setB_same {α : Type} {b : Bool} {x : α} {f : Bool → α} : setB b x f b = x := if_pos rfl
theorem setB_not {α : Type} {b : Bool} {x : α} {f : Bool → α} : setB b x f (!b) = f (!b) := if_neg (by cases b <;> simp)
theorem setB_id {α : Type} {b : Bool} {f : Bool → α} : setB b (f b) f = f := by
  funext b'
  unfold setB
  by_cases h : b' = b
  · rw [if_pos h, h]
  · rw [if_neg h]
structure St2 (K : PySem.W.Frag) (H0 H : Hp) (lp mp : Addr) (X : Bool → LA) (L : Bool → LS) (M : Bool → MS) : Prop where
  lots : ∀ b, Lot K H (X b) (L b) (M b)
  ap : ∀ b, Apart (foot (X b)) (foot (X !b))
  hlp : H lp = some (.lst [.ref (X false).p, .ref (X true).p])
  hmp : H mp = some (.lst [.ref (X false).m, .ref (X true).m])
  lo : ∀ b, lp ∉ foot (X b) ∧ mp ∉ foot (X b)
  ex : Ext [] H0 H
  nw : ∀ b, ∀ c ∈ foot (X b), H0 c = none
theorem St2.step {K : PySem.W.Frag} {H0 H H' : Hp} {lp mp : Addr} {X : Bool → LA} {L : Bool → LS} {M : Bool → MS} {F : List Addr} {b : Bool} {X' : LA} {L' : LS} {M' : MS} (S : St2 K H0 H lp mp X L M) (e : Ext F H H')
    (hF : ∀ c ∈ F, c ∈ foot (X b) ∨ H c = none) (hl : Lot K H' X' L' M') (hp : X'.p = (X b).p) (hm : X'.m = (X b).m) (hX : ∀ c ∈ foot X', c ∈ foot (X b) ∨ H c = none) :
    St2 K H0 H' lp mp (setB b X' X) (setB b L' L) (setB b M' M) := by
  have n1 : ∀ c ∈ foot (X !b), c ∉ F := fun c h1 h2 => (hF c h2).elim (fun z => S.ap b c z h1) fun z => (S.lots !b).live c h1 z
  have n2 : lp ∉ F := fun z => (hF _ z).elim (S.lo b).1 fun z => by rw [S.hlp] at z; cases z
  have n3 : mp ∉ F := fun z => (hF _ z).elim (S.lo b).2 fun z => by rw [S.hmp] at z; cases z
  have n4 : ∀ c, H c = none → H0 c = none := fun c z => S.ex.free z (by simp)
  have n5 : Apart (foot X') (foot (X !b)) := fun c h1 h2 => (hX c h1).elim (fun z => S.ap b c z h2) fun z => (S.lots !b).live c h2 z
  have q : ∀ b', b' = b ∨ b' = !b := fun b' => by cases b' <;> cases b <;> simp
  refine ⟨fun b' => ?_, fun b' => ?_, ?_, ?_, fun b' => ?_, S.ex.then e fun c h => .inr ((hF c h).elim (S.nw b c) (n4 c)), fun b' => ?_⟩
  · rcases q b' with rfl | rfl
    · rw [setB_same, setB_same, setB_same]; exact hl
    · rw [setB_not, setB_not, setB_not]; exact (S.lots !b).ext e n1
  · rcases q b' with rfl | rfl
    · rw [setB_same, setB_not]; exact n5
    · rw [setB_not, Bool.not_not, setB_same]; exact n5.symm
  · rw [e.keep _ _ S.hlp n2]; cases b <;> simp [setB, hp]
  · rw [e.keep _ _ S.hmp n3]; cases b <;> simp [setB, hm]
  · rcases q b' with rfl | rfl
    · rw [setB_same]
      exact ⟨fun z => (hX _ z).elim (S.lo b').1 fun z => (by rw [S.hlp] at z; cases z), fun z => (hX _ z).elim (S.lo b').2 fun z => (by rw [S.hmp] at z; cases z)⟩
    · rw [setB_not]; exact S.lo _
  · rcases q b' with rfl | rfl
    · rw [setB_same]; exact fun c h => (hX c h).elim (S.nw b' c) (n4 c)
    · rw [setB_not]; exact S.nw _
theorem St2.same {K : PySem.W.Frag} {H0 H H' : Hp} {lp mp : Addr} {X : Bool → LA} {L : Bool → LS} {M : Bool → MS} (S : St2 K H0 H lp mp X L M) (e : Ext [] H H') : St2 K H0 H' lp mp X L M :=
  ⟨fun b => (S.lots b).ext e fun _ _ => by simp, S.ap, e.keep _ _ S.hlp (by simp), e.keep _ _ S.hmp (by simp), S.lo, S.ex.trans e, S.nw⟩
/-- the leases changed -/
theorem St2.told {K : PySem.W.Frag} {H0 H H' : Hp} {lp mp : Addr} {X : Bool → LA} {L : Bool → LS} {M : Bool → MS} {b : Bool} {L' : LS} (S : St2 K H0 H lp mp X L M) (e : Ext [(X b).p, (X b).ps, (X b).pe] H H') (h : LeasesAt K H' (X b).p (X b).ps (X b).pe L') :
    St2 K H0 H' lp mp X (setB b L' L) M := by
  have nd := (S.lots b).nd
  refine (fun (z : St2 K H0 H' lp mp (setB b (X b) X) (setB b L' L) (setB b (M b) M)) => (by rw [setB_id, setB_id] at z; exact z)) ?_
  refine S.step e (fun c h => .inl (by simp only [foot, List.mem_cons, List.not_mem_nil, or_false] at h ⊢; rcases h with h | h | h <;> simp [h])) ⟨h, (S.lots b).mi.ext e ?_ ?_ ?_ ?_, nd⟩ rfl rfl fun c h => .inl h
  all_goals
    simp only [foot, List.nodup_cons, List.mem_cons, List.not_mem_nil, or_false, not_or] at nd ⊢
    obtain ⟨⟨_, _, a1, a2, a3, a4⟩, ⟨_, b1, b2, b3, b4⟩, ⟨c1, c2, c3, c4⟩, _⟩ := nd
    simp [*, Ne.symm, eq_comm]
theorem St2.mine {K : PySem.W.Frag} {H0 H H' : Hp} {lp mp : Addr} {X : Bool → LA} {L : Bool → LS} {M : Bool → MS} {b : Bool} {M' : MS} (S : St2 K H0 H lp mp X L M) (e : Ext [(X b).a, (X b).b] H H') (h : MineAt H' (X b).m (X b).a (X b).b (X b).c M' []) :
    St2 K H0 H' lp mp X L (setB b M' M) := by
  have nd := (S.lots b).nd
  refine (fun (z : St2 K H0 H' lp mp (setB b (X b) X) (setB b (L b) L) (setB b M' M)) => (by rw [setB_id, setB_id] at z; exact z)) ?_
  refine S.step e (fun c h => .inl (by simp only [foot, List.mem_cons, List.not_mem_nil, or_false] at h ⊢; rcases h with h | h <;> simp [h])) ⟨(S.lots b).le.ext e ?_ ?_ ?_, h, nd⟩ rfl rfl fun c h => .inl h
  all_goals
    simp only [foot, List.nodup_cons, List.mem_cons, List.not_mem_nil, or_false, not_or] at nd ⊢
    obtain ⟨⟨_, _, a1, a2, a3, a4⟩, ⟨_, b1, b2, b3, b4⟩, ⟨c1, c2, c3, c4⟩, _⟩ := nd
    simp [*]
/-- the list told is another one -/
theorem St2.ended {K : PySem.W.Frag} {H0 H H1 H' : Hp} {lp mp : Addr} {X : Bool → LA} {L : Bool → LS} {M : Bool → MS} {b : Bool} {f : Addr} (S : St2 K H0 H lp mp X L M) (hf : H f = none) (e1 : Ext [] H H1) (e : Ext [(X b).m, f] H1 H') (h : MineAt H' (X b).m (X b).a (X b).b f (M b) []) :
    St2 K H0 H' lp mp (setB b { X b with c := f } X) L M := by
  have nd := (S.lots b).nd
  have lv := (S.lots b).live
  have nf : ∀ c ∈ foot (X b), c ≠ f := fun c hc z => lv c hc (z ▸ hf)
  have e2 : Ext [(X b).m, f] H H' := (e1.sub (by simp)).trans e
  have nd2 : (foot { X b with c := f }).Nodup := by
    simp only [foot, List.nodup_cons, List.mem_cons, List.not_mem_nil, or_false, not_or] at nd nf ⊢
    obtain ⟨⟨a1, a2, a3, a4, a5, a6⟩, ⟨b1, b2, b3, b4, b5⟩, ⟨c1, c2, c3, c4⟩, ⟨d1, d2, d3⟩, ⟨e1, e2⟩, _⟩ := nd
    have g1 := nf (X b).p (by simp)
    have g2 := nf (X b).ps (by simp)
    have g3 := nf (X b).pe (by simp)
    have g4 := nf (X b).m (by simp)
    have g5 := nf (X b).a (by simp)
    have g6 := nf (X b).b (by simp)
    simp [*]
  have g1 := nf (X b).p (by simp [foot])
  have g2 := nf (X b).ps (by simp [foot])
  have g3 := nf (X b).pe (by simp [foot])
  refine (fun (z : St2 K H0 H' lp mp (setB b { X b with c := f } X) (setB b (L b) L) (setB b (M b) M)) => (by rw [setB_id, setB_id] at z; exact z)) ?_
  refine S.step e2 (fun c h => ?_) ⟨(S.lots b).le.ext e2 ?_ ?_ ?_, h, nd2⟩ rfl rfl fun c h => ?_
  · simp only [List.mem_cons, List.not_mem_nil, or_false] at h
    rcases h with rfl | rfl
    · exact .inl (by simp [foot])
    · exact .inr hf
  · simp only [foot, List.nodup_cons, List.mem_cons, List.not_mem_nil, or_false, not_or] at nd ⊢
    exact ⟨nd.1.2.2.1, g1⟩
  · simp only [foot, List.nodup_cons, List.mem_cons, List.not_mem_nil, or_false, not_or] at nd ⊢
    exact ⟨nd.2.1.2.1, g2⟩
  · simp only [foot, List.nodup_cons, List.mem_cons, List.not_mem_nil, or_false, not_or] at nd ⊢
    exact ⟨nd.2.2.1.1, g3⟩
  · simp only [foot, List.mem_cons, List.not_mem_nil, or_false] at h ⊢
    rcases h with h | h | h | h | h | h | h
    all_goals first
      | exact .inr (h ▸ hf)
      | exact .inl (by simp [h])
theorem St2.start {K : PySem.W.Frag} {H0 H : Hp} {lp mp : Addr} {X0 X1 : LA} {L0 L1 : LS} {M0 M1 : MS} (le0 : LeasesAt K H X0.p X0.ps X0.pe L0) (mi0 : MineAt H X0.m X0.a X0.b X0.c M0 []) (le1 : LeasesAt K H X1.p X1.ps X1.pe L1) (mi1 : MineAt H X1.m X1.a X1.b X1.c M1 [])
    (hlp : H lp = some (.lst [.ref X0.p, .ref X1.p])) (hmp : H mp = some (.lst [.ref X0.m, .ref X1.m])) (nd : (lp :: mp :: (foot X0 ++ foot X1)).Nodup) (ex : Ext [] H0 H) (nw : ∀ c ∈ foot X0 ++ foot X1, H0 c = none) :
    St2 K H0 H lp mp (fun b => cond b X1 X0) (fun b => cond b L1 L0) (fun b => cond b M1 M0) := by
  rw [List.nodup_cons, List.nodup_cons, List.nodup_append] at nd
  obtain ⟨n1, n2, n3, n4, n5⟩ := nd
  have n6 : Apart (foot X0) (foot X1) := fun c h1 h2 => n5 c h1 c h2 rfl
  rw [List.mem_cons, List.mem_append, not_or, not_or] at n1
  rw [List.mem_append, not_or] at n2
  refine ⟨fun b => ?_, fun b => ?_, hlp, hmp, fun b => ?_, ex, fun b c h => ?_⟩
  · cases b
    · exact ⟨le0, mi0, n3⟩
    · exact ⟨le1, mi1, n4⟩
  · cases b
    · exact n6
    · exact n6.symm
  · cases b
    · exact ⟨n1.2.1, n2.1⟩
    · exact ⟨n1.2.2, n2.2⟩
  · cases b
    · exact nw c (List.mem_append_left _ h)
    · exact nw c (List.mem_append_right _ h)
def Tn (K : PySem.W.Frag) (H0 : Hp) (a lp mp : Addr) (i : Nat) (σ : St) (H : Hp) : Prop := ∃ (now : Int) (X : Bool → LA) (L : Bool → LS) (M : Bool → MS) (v4 v5 v6 v7 v8 v9 v10 v11 v12 v13 : Option V),
  σ = [some (.ref a), some (.ref lp), some (.ref mp), some (.int now), v4, v5, v6, v7, v8, v9, v10, v11, v12, v13] ∧ St2 K H0 H lp mp X L M ∧ (∀ b, Jn (L b) (M b)) ∧ ∀ b, (M b).given.length ≤ i
theorem ix2 {f : Bool → V} (n : Int) : atI [f false, f true] (n % 2) = some (f (decide (n % 2 = 1))) := by
  have h : n % 2 = 0 ∨ n % 2 = 1 := by omega
  rcases h with h | h <;> rw [h] <;> rfl
theorem ix2n {f : Bool → V} (n : Int) : atI [f false, f true] (1 - n % 2) = some (f (!decide (n % 2 = 1))) := by
  have h : n % 2 = 0 ∨ n % 2 = 1 := by omega
  rcases h with h | h <;> rw [h] <;> rfl
theorem ixI {xs : List Int} {n : Int} (h : 0 ≤ n) (l : n < xs.length) : ∃ d, atI (xs.map V.int) n = some (.int d) := ⟨_, atI_map (d := 0) h l⟩
theorem ixS {xs : List Str} {n : Int} (h : 0 ≤ n) (l : n < xs.length) : ∃ d, atI (xs.map V.str) n = some (.str d) := ⟨_, atI_map (d := Str.empty) h l⟩
theorem setJ {L : Bool → LS} {M : Bool → MS} {b : Bool} {L' : LS} {M' : MS} (J : ∀ b, Jn (L b) (M b)) (j : Jn L' M') : ∀ b', Jn (setB b L' L b') (setB b M' M b') := fun b' => by
  unfold setB
  by_cases h : b' = b
  · rw [if_pos h, if_pos h]; exact j
  · rw [if_neg h, if_neg h]; exact J b'
theorem setL {M : Bool → MS} {b : Bool} {M' : MS} {i : Nat} (le : ∀ b, (M b).given.length ≤ i) (h : M'.given.length ≤ (M b).given.length + 1) : ∀ b', (setB b M' M b').given.length ≤ i + 1 := fun b' => by
  unfold setB
  by_cases z : b' = b
  · rw [if_pos z]; have := le b; omega
  · rw [if_neg z]; have := le b'; omega
end LW

set_option maxHeartbeats 4000000
namespace LW
open PySem PySem.Spec PyProof.Rows L2
local macro_rules | `(tactic| wtm_at "vk") => `(tactic| first
  | assumption
  | with_reducible exact rv_mine_given
  | with_reducible exact rv_mine_ends
  | with_reducible exact rv_mine_told
  | exact valV_iv (by assumption)
  | fail)
local macro_rules | `(tactic| wtm_at "pk") => `(tactic| first
  | with_reducible exact putK_iv
  | with_reducible exact dropK_ik
  | with_reducible exact dropK_sk
  | with_reducible exact rp_mine_given
  | with_reducible exact rp_mine_ends
  | with_reducible exact rp_mine_told
  | assumption
  | fail)
local macro_rules | `(tactic| wtm_at "rm") => `(tactic| first
  | with_reducible exact rm_mine
  | exact rfl
  | fail)
local macro_rules | `(tactic| wtm_at "rl") => `(tactic| first
  | with_reducible exact rl_mine
  | with_reducible assumption
  | fail)
local macro_rules | `(tactic| wtm_at "lk") => `(tactic| with_reducible first
  | exact lk_Leases_given
  | exact lk_Leases_spans
  | exact lk_Leases_ends
  | fail)
local macro_rules | `(tactic| wtm_at "lm") => `(tactic| with_reducible first
  | exact lm_Leases_grant
  | exact lm_Leases_need
  | exact lm_Leases_renew
  | exact lm_Leases_drop
  | exact lm_Leases_due
  | fail)
local macro_rules | `(tactic| wtm_at "pt") => `(tactic| with_reducible first
  | exact pt_Leases_given
  | exact pt_Leases_spans
  | exact pt_Leases_ends
  | exact pi_Leases_0
  | exact pi_Leases_1
  | exact pi_Leases_2
  | fail)
local macro_rules | `(tactic| wtm_at "lz") => `(tactic| with_reducible first
  | exact lz_Leases
  | (simp only [List.length_cons, List.length_nil]; decide)
  | exact (by decide)
  | fail)
local macro_rules | `(tactic| wtm_at "hf") => `(tactic| first
  | assumption
  | (refine' hf_s ?hs ?hx; (case hs => assumption); (case hx => wtm_at "hf"))
  | (refine' hf_n ?hs ?hx ?ne; (case hs => assumption); (case hx => wtm_at "hf"); (case ne => wtm_at "ne"))
  | (refine' hf_e ?hs ?hx ?hy; (case hs => assumption); (case hx => wtm_at "hf"); (case hy => wtm_at "nin"))
  | fail)
local macro_rules | `(tactic| wtm_at "ne") => `(tactic| first
  | assumption
  | (apply Ne.symm; assumption)
  | (refine' ne_of_none ?hx ?hy; (case hy => assumption); (case hx => wtm_at "hf"))
  | (refine' (ne_of_none ?hx ?hy).symm; (case hy => assumption); (case hx => wtm_at "hf"))
  | (refine' ne_of ?hx ?hy ?hz; (case hx => assumption); (case hy => assumption); (case hz => intro z; cases z))
  | fail)
local macro_rules | `(tactic| wtm_at "nin") => `(tactic| first
  | assumption
  | exact notin_nil
  | (refine' notin_cons ?hx ?hy; (case hx => wtm_at "ne"); (case hy => wtm_at "nin"))
  | fail)
local macro_rules | `(tactic| wtm_at "mem") => `(tactic| first
  | assumption
  | exact List.mem_cons_self
  | (refine' List.mem_cons_of_mem _ ?hx; (case hx => wtm_at "mem"))
  | fail)
local macro_rules | `(tactic| wtm_at "wr") => `(tactic| first
  | exact Or.inr (by assumption)
  | exact Or.inl (by wtm_at "mem")
  | fail)
local macro_rules | `(tactic| wtm_at "lv") => `(tactic| first
  | assumption
  | exact Live.nil
  | (refine' Live.cons ?hx ?hy; (case hx => wtm_at "hf"); (case hy => wtm_at "lv"))
  | fail)
local macro_rules | `(tactic| wtm_at "sq") => `(tactic| first
  | assumption
  | (refine' Run.seq ?hx ?hy; (case hx => assumption); (case hy => assumption))
  | (refine' SqL.of ?hx; (case hx => wtm_at "hf"))
  | (refine' Same.seq ?hx ?hy; (case hx => assumption); (case hy => wtm_at "sq"))
  | (refine' Ext.seqL ?hx ?hz ?hy; (case hx => assumption); (case hy => wtm_at "sq"); (case hz => wtm_at "nin"))
  | fail)
local macro_rules | `(tactic| wtm_at "st") => `(tactic| first
  | assumption
  | (refine' SqT.of ?hx; (case hx => wtm_at "hf"))
  | fail)
local macro_rules | `(tactic| wtm_at "ix") => `(tactic| first
  | assumption
  | exact rfl
  | fail)
local macro_rules | `(tactic| wtm_at "sz") => `(tactic| first
  | wtm_at "rl"
  | with_reducible assumption
  | (rw [ik_len]; wtm_at "sz")
  | (rw [sk_len]; wtm_at "sz")
  | exact small1000 (by assumption)
  | exact small1000 (by omega)
  | exact small1000 (by simp only [List.length_cons, List.length_nil, List.length_append, List.length_map]; omega)
  | fail)
local macro_rules | `(tactic| wtm_at "k") => `(tactic| first
  | with_reducible refine k_seq ?_
  | with_reducible refine k_next ?_
  | with_reducible refine k_asg ?_
  | with_reducible refine k_ret ?_
  | with_reducible refine k_retN ?_
  | with_reducible refine k_drop ?_
  | with_reducible refine k_ifS ?_
  | ((with_reducible refine' k_var ?hx ?_); (case hx => exact rfl))
  | with_reducible refine k_c ?_
  | with_reducible refine k_negc ?_
  | with_reducible refine k_neg ?_
  | with_reducible refine l_neg ?_
  | with_reducible refine k_op ?_
  | with_reducible refine k_cb ?_
  | with_reducible refine k_nil ?_
  | with_reducible refine k_cons ?_
  | with_reducible refine k_test ?_
  | with_reducible refine k_B ?_
  | with_reducible refine k_not ?_
  | with_reducible refine k_and ?_
  | with_reducible refine k_or ?_
  | with_reducible refine k_notV ?_
  | with_reducible refine k_andV ?_
  | with_reducible refine k_orV ?_
  | with_reducible refine k_bl ?_
  | with_reducible refine k_add ?_
  | with_reducible refine k_sub ?_
  | ((with_reducible refine' k_mod ?hx ?_); (case hx => first | decide | omega))
  | ((with_reducible refine' k_div ?hx ?_); (case hx => exact ⟨by decide, by decide⟩))
  | ((with_reducible refine' k_mul ?hx ?_); (case hx => first | exact Or.inl ⟨by decide, by decide⟩ | exact Or.inr ⟨by decide, by decide⟩ | exact Or.inl ⟨by omega, by omega⟩))
  | with_reducible refine k_p6 ?_
  | with_reducible refine k_p9 ?_
  | with_reducible refine k_p12 ?_
  | with_reducible refine k_p13 ?_
  | with_reducible refine k_p18 ?_
  | with_reducible refine k_p30 ?_
  | with_reducible refine k_lt ?_
  | with_reducible refine k_le ?_
  | with_reducible refine k_gt ?_
  | with_reducible refine k_ge ?_
  | with_reducible refine k_eq ?_
  | with_reducible refine k_ne ?_
  | with_reducible refine k_seqS ?_
  | with_reducible refine k_neS ?_
  | with_reducible refine k_neB ?_
  | with_reducible refine k_isN ?_
  | with_reducible refine k_noN ?_
  | with_reducible refine k_fld ?_
  | ((with_reducible refine' l_fld ?hx ?hy ?_); (case hx => wtm_at "hf"); (case hy => wtm_at "lk"))
  | with_reducible refine k_fldS ?_
  | ((with_reducible refine' l_fldS ?hr ?hx ?hz ?hy ?hw ?_); (case hr => assumption); (case hx => wtm_at "hf"); (case hy => wtm_at "pt"); (case hz => wtm_at "lz"); (case hw => wtm_at "wr"); intro _ _ _ _)
  | ((with_reducible refine' l_new ?hr ?_); (case hr => assumption); intro _ _ _ _ _ _ _ _)
  | with_reducible refine k_append ?_
  | ((with_reducible refine' l_tyL ?hx ?_); (case hx => wtm_at "hf"))
  | ((with_reducible refine' l_ins ?hx ?hy ?_); (case hx => wtm_at "hf"); (case hy => wtm_at "lm"))
  | with_reducible refine k_methS ?_
  | with_reducible refine k_meth0 ?_
  | with_reducible refine k_callS ?_
  | with_reducible refine k_callE ?_
  | with_reducible refine k_dget ?_
  | with_reducible refine k_din ?_
  | with_reducible refine k_dnotin ?_
  | with_reducible refine k_dput ?_
  | with_reducible refine k_dpop ?_
  | with_reducible refine k_dget2 ?_
  | with_reducible refine k_tup ?_
  | with_reducible refine k_lst ?_
  | with_reducible refine k_dnew ?_
  | ((with_reducible refine' l_tup ?hx ?_); (case hx => simp only [List.length_cons, List.length_nil]; decide))
  | ((with_reducible refine' l_lst ?hx ?_); (case hx => simp only [List.length_cons, List.length_nil]; decide))
  | ((with_reducible refine' l_isD ?hx ?_); (case hx => wtm_at "hf"))
  | ((with_reducible refine' l_dinI ?hx ?_); (case hx => wtm_at "hf"))
  | ((with_reducible refine' l_dinS ?hx ?_); (case hx => wtm_at "hf"))
  | ((with_reducible refine' l_dnotinI ?hx ?_); (case hx => wtm_at "hf"))
  | ((with_reducible refine' l_dnotinS ?hx ?_); (case hx => wtm_at "hf"))
  | ((with_reducible refine' l_dputI ?hr ?hx ?hz ?hy ?hw ?_); (case hr => assumption); (case hx => wtm_at "hf"); (case hy => wtm_at "pk"); (case hz => wtm_at "sz"); (case hw => wtm_at "wr"); intro _ _ _ _)
  | ((with_reducible refine' l_dputS ?hr ?hx ?hz ?hy ?hw ?_); (case hr => assumption); (case hx => wtm_at "hf"); (case hy => wtm_at "pk"); (case hz => wtm_at "sz"); (case hw => wtm_at "wr"); intro _ _ _ _)
  | ((with_reducible refine' l_dpopI ?hr ?hx ?hz ?hy ?hw ?_); (case hr => assumption); (case hx => wtm_at "hf"); (case hy => wtm_at "pk"); (case hz => wtm_at "vk"); (case hw => wtm_at "wr"); intro _ _ _ _)
  | ((with_reducible refine' l_dpopS ?hr ?hx ?hz ?hy ?hw ?_); (case hr => assumption); (case hx => wtm_at "hf"); (case hy => wtm_at "pk"); (case hz => wtm_at "vk"); (case hw => wtm_at "wr"); intro _ _ _ _)
  | ((with_reducible refine' l_dgetI ?hx ?hz ?_); (case hx => wtm_at "hf"); (case hz => wtm_at "vk"))
  | ((with_reducible refine' l_dgetS ?hx ?hz ?_); (case hx => wtm_at "hf"); (case hz => wtm_at "vk"))
  | ((with_reducible refine' l_dgetIF ?hx ?hz ?_); (case hx => wtm_at "hf"); (case hz => wtm_at "vk"))
  | ((with_reducible refine' l_dgetSF ?hx ?hz ?_); (case hx => wtm_at "hf"); (case hz => wtm_at "vk"))
  | ((with_reducible refine' k_disp ?hr ?_); (case hr => assumption); intro _ _ _ _ _ _ _ _)
  | with_reducible refine k_pcons ?_
  | with_reducible refine k_pnil ?_
  | ((with_reducible refine' l_disp ?hr ?hx ?hu ?hv ?hy ?hw ?_); (case hr => assumption); (case hx => wtm_at "hf"); (case hu => exact rfl); (case hv => simp only [List.length_map, List.length_cons, List.length_nil]; decide); (case hy => wtm_at "rm"); (case hw => wtm_at "wr"); intro _ _ _ _)
  | ((with_reducible refine' l_append ?hr ?hx ?hz ?hw ?_); (case hr => assumption); (case hx => wtm_at "hf"); (case hz => wtm_at "sz"); (case hw => wtm_at "wr"); intro _ _ _ _)
  | ((with_reducible refine' l_isEt ?hx ?_); (case hx => first | exact isD (ExcK.kit (by assumption) _ (by wtm_at "mem") _ (by wtm_at "mem")) | exact isC (ExcK.kit (by assumption) _ (by wtm_at "mem") _ (by wtm_at "mem")) (by decide)))
  | ((with_reducible refine' l_isEV ?hx ?_); (case hx => exact ExcK.kitV (by assumption) _ (by wtm_at "mem")))
  | ((with_reducible refine' l_isiI ?hx ?_); (case hx => first | rfl | assumption))
  | ((with_reducible refine' l_isiB ?hx ?_); (case hx => first | rfl | assumption))
  | ((with_reducible refine' l_isiS ?hx ?_); (case hx => first | rfl | assumption))
  | ((with_reducible refine' l_isiL ?hx ?_); (case hx => wtm_at "hf"))
  | ((with_reducible refine' l_isiT ?hx ?_); (case hx => wtm_at "hf"))
  | ((with_reducible refine' l_lenL ?hx ?_); (case hx => wtm_at "sq"))
  | ((with_reducible refine' l_lenT ?hx ?_); (case hx => wtm_at "st"))
  | ((with_reducible refine' l_ixL ?hx ?hy ?_); (case hx => wtm_at "sq"); (case hy => wtm_at "ix"))
  | ((with_reducible refine' l_ixT ?hx ?hy ?_); (case hx => wtm_at "st"); (case hy => wtm_at "ix"))
  | with_reducible refine k_for ?_
  | with_reducible refine k_rng1 ?_
  | with_reducible refine k_rng2 ?_
  | with_reducible refine k_rng3 ?_
  | with_reducible refine k_makeS ?_
  | ((with_reducible refine' l_make ?hr ?_); (case hr => assumption); intro _ _ _ _ _ _ _ _ _)
  | with_reducible refine k_ntt ?_
  | with_reducible refine k_ntf ?_
  | with_reducible refine k_clear ?_
  | ((with_reducible refine' l_clear ?hr ?hx ?hw ?_); (case hr => assumption); (case hx => wtm_at "hf"); (case hw => wtm_at "wr"); intro _ _ _ _)
  | with_reducible refine k_ift ?_
  | with_reducible refine k_iff ?_
  | with_reducible refine g_name ?_
  | fail)
local macro_rules | `(tactic| wtm_at "k") => `(tactic| first
  | with_reducible refine k_wholeI ?_
  | ((with_reducible refine' k_whole ?hx ?_); (case hx => first | rfl | assumption))
  | ((with_reducible refine' k_cell ?hx ?hy ?_); (case hx => first | decide | omega | assumption); (case hy => wtm_at "sq"))
  | fail)
section
variable {P : Program} {w : World} {K : PySem.W.Frag} {mg : Str → Option Value} {base : Heap}
def sp_law (K : PySem.W.Frag) : Sp := fun vs H Q _ => ∃ (a : Addr) (ns : List Int), vs = [.ref a] ∧ ns.length ≤ 63 ∧ SqL K H a (ns.map V.int) ∧ ∀ H', Q (.bl true) H'
theorem sc_law : FnScope ["_law_script", "_law_lots", "_law_mine", "_law_now", "_law_k", "_law_kind", "_law_cell", "_law_which", "_law_word", "_law_number", "_law_found", "_law_due_here", "_law_until", "_law_ticks_here"] ["_law_script"] (defScope s_law) := ⟨rfl, rfl, rfl, by decide +kernel, rfl, by decide +kernel, by decide +kernel⟩
theorem ok_law (T : FX K mg) : FnOk P w K mg base (L2N.CX P w) 4 (He.ga K "law") (fdAt K ("law", none)) ["_law_script"] (sp_law K) := by
  refine FunD.ok T.F_law sc_law (fun vs H Q E h => ?_) (fun cdv A outer s H vs Q E hr h => ?_)
  · (repeat (obtain ⟨_, h⟩ := h)); subst_vars; rfl
  · have hu := hu_of hr
    have hu64 := hr.units
    obtain ⟨tMT, hMT⟩ := T.i_MOST_TICKS
    refine ⟨_,
      (pss_cons
        (ps_set (i := 1) sc_law.nd rfl (Or.inl rfl) (pe_lst (pa_cons (pe_makeS0 T.mk_Leases (ok_Leases_init T) (hr.mono (j := 2) (by decide)) rfl T.g_Leases T.b_Leases_init (fun σ => L2N.passAt tkd σ)) (pa_cons (pe_makeS0 T.mk_Leases (ok_Leases_init T) (hr.mono (j := 2) (by decide)) rfl T.g_Leases T.b_Leases_init (fun σ => L2N.passAt tkd σ)) pa_nil))))
      (pss_cons
        (ps_set (i := 2) sc_law.nd rfl (Or.inl rfl) (pe_lst (pa_cons (pe_disp (pps_cons pe_str (pe_lst pa_nil) (pps_cons pe_str pe_dnewK (pps_cons pe_str (pe_lst pa_nil) pps_nil))) (by rfl) (by rfl) (fun z => by cases z) (by decide)) (pa_cons (pe_disp (pps_cons pe_str (pe_lst pa_nil) (pps_cons pe_str pe_dnewK (pps_cons pe_str (pe_lst pa_nil) pps_nil))) (by rfl) (by rfl) (fun z => by cases z) (by decide)) pa_nil))))
      (pss_cons
        (ps_set (i := 3) sc_law.nd rfl (Or.inl rfl) pe_int)
      (pss_cons
        (ps_if (pt_cmpR oIeq (pe_op oImod (pe_op oIdiv (pe_callS (ok_l_cell_at T) (hr.mono (j := 1) (by decide)) rfl T.g_l_cell_at T.k_l_cell_at T.b_l_cell_at (fun σ => L2N.passAt tkd σ) (pa_cons (pv 0) (pa_cons pe_int pa_nil))) pe_int) pe_int) pe_int (nomark _))
          (pss_one
            (ps_for pod rfl (pi_range1 rfl T.f_range (pa_cons pe_int pa_nil)) (pg_name (i := 4) sc_law.nd rfl (Or.inl rfl))
              (pss_cons
                (ps_set (i := 13) sc_law.nd rfl (Or.inl rfl) (pe_op oIadd pe_int (pe_op oImod (pe_op oIadd (pe_callS (ok_l_cell_at T) (hr.mono (j := 1) (by decide)) rfl T.g_l_cell_at T.k_l_cell_at T.b_l_cell_at (fun σ => L2N.passAt tkd σ) (pa_cons (pv 0) (pa_cons pe_int pa_nil))) (pe_op oImul pe_int (pv 4))) pe_int)))
              (pss_one
                (ps_if (pt_cmpR (op_neD hu64) (pe_methS (pe_ix ix_list (pv 1) (pe_op oImod (pv 4) pe_int) (fun _ _ => rfl)) T.cl_Leases T.me_Leases_grant (ok_Leases_grant T) (hr.mono (j := 1) (by decide)) T.b_Leases_grant (fun σ => L2N.passAt tkd σ) (pa_cons (pv 3) (pa_cons (pv 13) pa_nil))) (pe_callS (ok_l_due T) (hr.mono (j := 1) (by decide)) rfl T.g_l_due T.k_l_due T.b_l_due (fun σ => L2N.passAt tkd σ) (pa_cons (pe_ix ix_list (pv 2) (pe_op oImod (pv 4) pe_int) (fun _ _ => rfl)) (pa_cons pe_str (pa_cons (pv 3) (pa_cons (pv 13) pa_nil))))) (nomark _))
                  (pss_one
                    (ps_ret pe_bl))
                  pss_nil)))))
          pss_nil)
      (pss_cons
        (ps_for pod rfl (pi_range3 rfl T.f_range (pa_cons pe_int (pa_cons (pe_op oIsub (pe_callB oLen (by rfl) T.f_len PySem.boot_len (pa_cons (pv 0) pa_nil)) pe_int) (pa_cons pe_int pa_nil)))) (pg_name (i := 4) sc_law.nd rfl (Or.inl rfl))
          (pss_cons
            (ps_set (i := 5) sc_law.nd rfl (Or.inl rfl) (pe_ix ix_list (pv 0) (pv 4) (fun _ _ => rfl)))
          (pss_cons
            (ps_set (i := 6) sc_law.nd rfl (Or.inl rfl) (pe_ix ix_list (pv 0) (pe_op oIadd (pv 4) pe_int) (fun _ _ => rfl)))
          (pss_cons
            (ps_set (i := 3) sc_law.nd rfl (Or.inl rfl) (pe_op oIadd (pv 3) (pe_ix ix_list (pe_lst (pa_cons (pe_op oImod (pe_op oIdiv (pv 5) pe_int) pe_int) (pa_cons (pe_op oImod (pv 6) (pe_op oIpow pe_int pe_int)) pa_nil))) (pe_op oIdiv (pe_op oImod (pe_op oIdiv (pv 5) pe_int) pe_int) pe_int) (fun _ _ => rfl))))
          (pss_cons
            (ps_set (i := 7) sc_law.nd rfl (Or.inl rfl) (pe_op oImod (pv 5) pe_int))
          (pss_cons
            (ps_set (i := 8) sc_law.nd rfl (Or.inl rfl) (pe_ix ix_list (pe_lst (pa_cons pe_str (pa_cons pe_str (pa_cons pe_str (pa_cons pe_str (pa_cons pe_str pa_nil)))))) (pe_op oImod (pe_op oIdiv (pv 5) pe_int) pe_int) (fun _ _ => rfl)))
          (pss_cons
            (ps_set (i := 9) sc_law.nd rfl (Or.inl rfl) (pe_op oImod (pv 6) (pe_op oIadd (pe_callB oLen (by rfl) T.f_len PySem.boot_len (pa_cons (pe_dget hu (pe_ix ix_list (pv 2) (pv 7) (fun _ _ => rfl)) pe_str (fun _ _ => rfl)) pa_nil)) pe_int)))
          (pss_cons
            (ps_if (pt_cmpR oIeq (pe_op oImod (pe_op oIdiv (pv 5) pe_int) pe_int) pe_int (nomark _))
              (pss_one
                (ps_set (i := 9) sc_law.nd rfl (Or.inl rfl) (pe_ix ix_list (pe_lst (pa_cons (pe_un un_neg pe_int) (pa_cons (pe_un un_neg pe_int) (pa_cons (pe_op oIpow pe_int pe_int) pa_nil)))) (pe_op oImod (pv 6) pe_int) (fun _ _ => rfl))))
              pss_nil)
          (pss_cons
            (ps_if (pt_cmpR oSeq (pv 8) pe_str (nomark _))
              (pss_one
                (ps_set (i := 9) sc_law.nd rfl (Or.inl rfl) (pe_callS (ok_l_ticks T) (hr.mono (j := 1) (by decide)) rfl T.g_l_ticks T.k_l_ticks T.b_l_ticks (fun σ => L2N.passAt tkd σ) (pa_cons (pv 6) (pa_cons (pe_op oIdiv (pv 5) pe_int) pa_nil)))))
              pss_nil)
          (pss_cons
            (ps_set (i := 10) sc_law.nd rfl (Or.inl rfl) (pe_callS (ok_l_told T) (hr.mono (j := 3) (by decide)) rfl T.g_l_told T.k_l_told T.b_l_told (fun σ => L2N.passAt tkd σ) (pa_cons (pe_ix ix_list (pv 1) (pv 7) (fun _ _ => rfl)) (pa_cons (pv 8) (pa_cons (pv 3) (pa_cons (pv 9) pa_nil))))))
          (pss_cons
            (ps_set (i := 11) sc_law.nd rfl (Or.inl rfl) (pe_callS (ok_l_due T) (hr.mono (j := 1) (by decide)) rfl T.g_l_due T.k_l_due T.b_l_due (fun σ => L2N.passAt tkd σ) (pa_cons (pe_ix ix_list (pv 2) (pv 7) (fun _ _ => rfl)) (pa_cons (pv 8) (pa_cons (pv 3) (pa_cons (pv 9) pa_nil))))))
          (pss_cons
            (ps_if (PW.pt (pw_or (pt_cmpR (op_neD hu64) (pv 10) (pv 11) (nomark _)) (pw_or1 (pt_cmpR oBne (pe_callS (ok_l_whole T) (hr.mono (j := 1) (by decide)) rfl T.g_l_whole T.k_l_whole T.b_l_whole (fun σ => L2N.passAt tkd σ) (pa_cons (pv 10) pa_nil)) (pe_callS (ok_l_whole T) (hr.mono (j := 1) (by decide)) rfl T.g_l_whole T.k_l_whole T.b_l_whole (fun σ => L2N.passAt tkd σ) (pa_cons (pv 11) pa_nil)) (nomark _)))))
              (pss_one
                (ps_ret pe_bl))
              pss_nil)
          (pss_cons
            (ps_set (i := 12) sc_law.nd rfl (Or.inl rfl) (pe_op oIadd (pv 3) (pe_ix ix_list (pe_lst (pa_cons (pe_op oImod (pv 6) pe_int) (pa_cons (pe_op oImod (pv 6) pe_int) (pa_cons (pe_op oIpow pe_int pe_int) pa_nil)))) (pe_op oImod (pv 6) pe_int) (fun _ _ => rfl))))
          (pss_cons
            (ps_if (pt_not (pt_val (pe_callS (ok_l_ending T) (hr.mono (j := 2) (by decide)) rfl T.g_l_ending T.k_l_ending T.b_l_ending (fun σ => L2N.passAt tkd σ) (pa_cons (pe_methS (pe_ix ix_list (pv 1) (pv 7) (fun _ _ => rfl)) T.cl_Leases T.me_Leases_due (ok_Leases_due T) (hr.mono (j := 1) (by decide)) T.b_Leases_due (fun σ => L2N.passAt tkd σ) (pa_cons (pv 12) pa_nil)) (pa_cons (pe_ix ix_list (pv 2) (pv 7) (fun _ _ => rfl)) (pa_cons (pv 12) pa_nil))))))
              (pss_one
                (ps_ret pe_bl))
              pss_nil)
          (pss_one
            (ps_if (pt_not (pt_val (pe_callS (ok_l_ending T) (hr.mono (j := 2) (by decide)) rfl T.g_l_ending T.k_l_ending T.b_l_ending (fun σ => L2N.passAt tkd σ) (pa_cons (pe_methS (pe_ix ix_list (pv 1) (pe_op oIsub pe_int (pv 7)) (fun _ _ => rfl)) T.cl_Leases T.me_Leases_due (ok_Leases_due T) (hr.mono (j := 1) (by decide)) T.b_Leases_due (fun σ => L2N.passAt tkd σ) (pa_cons (pv 3) pa_nil)) (pa_cons (pe_ix ix_list (pv 2) (pe_op oIsub pe_int (pv 7)) (fun _ _ => rfl)) (pa_cons (pv 3) pa_nil))))))
              (pss_one
                (ps_ret pe_bl))
              pss_nil))))))))))))))))
      (pss_one
        (ps_ret (pe_and (pe_callS (ok_l_whole T) (hr.mono (j := 1) (by decide)) rfl T.g_l_whole T.k_l_whole T.b_l_whole (fun σ => L2N.passAt tkd σ) (pa_cons (pe_globI rfl hMT) pa_nil)) (pe_one (pe_cmpR oIeq (pe_globI rfl hMT) pe_int (nomark _))))))))))), ?_⟩
    obtain ⟨a, ns, rfl, hl, hS, k⟩ := h
    have R0 : Run [] H H := Run.start Live.nil
    repeat wtm_at "k"
    rename_i p0 dx0 Ha fa1 fa2 fa3 ra ha sa
    refine ⟨p0, dx0, rfl, ha, fun Hb ps0 pe0 fb1 fb2 l0 eb => ?_⟩
    obtain ⟨⟨dy0, l01⟩, l02, l03, l04⟩ := l0
    have rb : Run [] H Hb := ra.call eb (fun c h => .inr (by rw [List.mem_singleton.mp h]; exact fa1)) fun _ h => by cases h
    refine ⟨rfl, ?_⟩
    repeat wtm_at "k"
    rename_i p1 dx1 Hc fc1 fc2 fc3 rc hc sc
    refine ⟨p1, dx1, rfl, hc, fun Hd ps1 pe1 fd1 fd2 l1 ed => ?_⟩
    obtain ⟨⟨dy1, l11⟩, l12, l13, l14⟩ := l1
    have rd : Run [] H Hd := rc.call ed (fun c h => .inr (by rw [List.mem_singleton.mp h]; exact fc1)) fun _ h => by cases h
    refine ⟨rfl, ?_⟩
    repeat wtm_at "k"
    rename_i lp Hy f1lp f2lp f3lp rHe hlp sHe m0 Hf f1m0 f2m0 f3m0 rHf hm0 sHf a0 Hg f1a0 f2a0 f3a0 rHg ha0 sHg b0 Hh f1b0 f2b0 f3b0 rHh hb0 sHh c0 Hi f1c0 f2c0 f3c0 rHi hc0 sHi Hj rHj hm0' nHj m1 Hk f1m1 f2m1 f3m1 rHk hm1 sHk a1 Hl f1a1 f2a1 f3a1 rHl ha1 sHl b1 Hm f1b1 f2b1 f3b1 rHm hb1 sHm c1 Hn f1c1 f2c1 f3c1 rHn hc1 sHn Ho rHo hm1' nHo mp Hz f1mp f2mp f3mp rHp hmp sHp
    have S : St2 K H Hz lp mp (fun b => cond b ⟨p1, ps1, pe1, m1, a1, b1, c1⟩ ⟨p0, ps0, pe0, m0, a0, b0, c0⟩) (fun b => cond b LS.new LS.new) (fun b => cond b ⟨[], []⟩ ⟨[], []⟩) := by
      refine St2.start ⟨⟨dy0, ?_⟩, ?_, ?_, l04⟩ ⟨?_, ?_, ?_, ?_, ?_, ?_⟩ ⟨⟨dy1, ?_⟩, ?_, ?_, l14⟩ ⟨?_, ?_, ?_, ?_, ?_, ?_⟩ ?_ ?_ ?_ rHp.ext ?_
      all_goals first
        | wtm_at "hf"
        | wtm_at "ne"
        | skip
      · simp only [foot, List.nodup_cons, List.cons_append, List.nil_append, List.mem_cons, List.not_mem_nil, or_false, not_or, List.nodup_nil, not_false_eq_true, and_true]
        (repeat' apply And.intro) <;> wtm_at "ne"
      · intro c hc
        simp only [foot, List.cons_append, List.nil_append, List.mem_cons, List.not_mem_nil, or_false] at hc
        have g1 := ra.ext.free fb1 (by simp)
        have g2 := ra.ext.free fb2 (by simp)
        have g3 := rc.ext.free fd1 (by simp)
        have g4 := rc.ext.free fd2 (by simp)
        rcases hc with rfl | rfl | rfl | rfl | rfl | rfl | rfl | rfl | rfl | rfl | rfl | rfl | rfl | rfl <;> assumption
    have h0 : Tn K H a lp mp 0 [some (.ref a), some (.ref lp), some (.ref mp), some (.int 0), none, none, none, none, none, none, none, none, none, none] Hz :=
      ⟨0, _, _, _, _, _, _, _, _, _, _, _, _, _, rfl, S, fun b => by cases b <;> exact jn_new, fun b => by cases b <;> exact Nat.le_refl _⟩
    refine' lets _ (fun σ' H' => Tn K H a lp mp 40 σ' H') ?main ?key
    case main =>
      intro key
      refine k_ifd (fun c => ?_) fun c => ?_
      · repeat wtm_at "k"
        refine l_rng1 (by omega) (l_rng (Tn K H a lp mp) h0 (fun i σ' H1 hi q => ?_) fun σ' H1 q => ?_)
        · obtain ⟨now, X, L, M, v4, v5, v6, v7, v8, v9, v10, v11, v12, v13, rfl, S, J, le⟩ := q
          have hS1 : SqL K H1 a (ns.map V.int) := S.ex.seqL (by simp) hS
          have R1 : Run [] H1 H1 := Run.start Live.nil
          have hlp := S.hlp
          have hmp := S.hmp
          generalize hb : decide ((0 + (i : Int)) % 2 = 1) = b
          have e1 : atI [V.ref (X false).p, V.ref (X true).p] ((0 + (i : Int)) % 2) = some (V.ref (X b).p) := by rw [ix2 (f := fun b => V.ref (X b).p), hb]
          have e2 : atI [V.ref (X false).m, V.ref (X true).m] ((0 + (i : Int)) % 2) = some (V.ref (X b).m) := by rw [ix2 (f := fun b => V.ref (X b).m), hb]
          obtain ⟨dx, hob⟩ := (S.lots b).le.ob
          repeat wtm_at "k"
          generalize ht : 1 + (cellD ns 1 + 7 * (0 + (i : Int))) % 50 = t
          have t1 : 1 ≤ t ∧ t ≤ 1000000 := by omega
          refine ⟨_, _, _, L b, now, t, rfl, (S.lots b).le, by have := (J b).l2; have := le b; omega, by have := (J b).l1; have := le b; rw [(J b).en]; omega, fun _ H2 hL2 x2 => ?_, fun z => absurd t1 z⟩
          obtain ⟨jn, ev, lg⟩ := jn_step (J b) "grant" now t
          have eL : toldL (L b) "grant" now t = (L b).grant now t := by unfold toldL; rw [if_pos rfl, if_pos t1]
          have eV : toldV (L b) "grant" now t = .int ((L b).given + 1) := by unfold toldV; rw [if_pos rfl, if_pos t1]
          have S2 := S.told x2 hL2
          have hmp2 := S2.hmp
          have hm2 := (S2.lots b).mi
          repeat wtm_at "k"
          refine ⟨_, _, _, _, M b, [], "grant", now, t, rfl, hm2, by have := le b; omega, by have := (J b).l1; have := le b; omega, fun k e h => (let ⟨_, _, h2, h3, _⟩ := (J b).sp k e h; ⟨h2, h3⟩), fun H3 hm3 x3 => ?_⟩
          have S3 := S2.mine x3 hm3
          obtain ⟨d1, d2, d3⟩ := dueV_plain (M b) "grant" now t
          rw [← eV, ev]
          refine l_neV d1 d1 d2 d2 ?_
          refine k_bl ?_
          refine k_ifnd (fun z => absurd rfl z) fun _ => ?_
          rw [← eL] at S3
          exact ⟨now, X, _, _, _, _, _, _, _, _, _, _, _, _, rfl, S3, setJ J jn, setL le lg⟩
        · exact key _ _ q
      · exact key _ _ (let ⟨now, X, L, M, v4, v5, v6, v7, v8, v9, v10, v11, v12, v13, e, S, J, le⟩ := h0; ⟨now, X, L, M, v4, v5, v6, v7, v8, v9, v10, v11, v12, v13, e, S, J, fun b => Nat.le_trans (le b) (by omega)⟩)
    case key =>
      intro σ' H' q
      obtain ⟨now, X, L, M, v4, v5, v6, v7, v8, v9, v10, v11, v12, v13, rfl, S, J, le⟩ := id q
      have hS1 : SqL K H' a (ns.map V.int) := S.ex.seqL (by simp) hS
      repeat wtm_at "k"
      have el : ((ns.map V.int).length : Int) = ns.length := by rw [List.length_map]
      refine l_rng3 ⟨by omega, by omega, by omega, by omega, by omega, by omega⟩ (l_rngC (fun i => Tn K H a lp mp (40 + i)) q (fun i σ' H1 hi q => ?_) fun σ' H1 q => ?_)
      · have hn := stepN_eq (i := 0) (j := ((ns.map V.int).length : Int) - 1) (c := 2) (by omega)
        have hn2 : (0 + (i : Int) * 2) + 1 < ns.length := by
          split at hn <;> omega
        have hi63 : i ≤ 63 := by omega
        clear le J S
        obtain ⟨now, X, L, M, v4, v5, v6, v7, v8, v9, v10, v11, v12, v13, rfl, S, J, le⟩ := q
        have hS1 : SqL K H1 a (ns.map V.int) := S.ex.seqL (by simp) hS
        have R1 : Run [] H1 H1 := Run.start Live.nil
        have hlp := S.hlp
        have hmp := S.hmp
        obtain ⟨kind, ek⟩ := ixI (xs := ns) (n := 0 + (i : Int) * 2) (by omega) (by omega)
        obtain ⟨cell, ec⟩ := ixI (xs := ns) (n := 0 + (i : Int) * 2 + 1) (by omega) (by omega)
        obtain ⟨d, ed⟩ := ixI (xs := [kind / 6 % 5, cell % 1000000000000]) (n := kind / 30 % 9 / 8) (by omega) (by show _ < (2 : Int); omega)
        obtain ⟨word, ew⟩ := ixS (xs := ["grant", "renew", "grant", "drop", "renew"]) (n := kind / 2 % 5) (by omega) (by show _ < (5 : Int); omega)
        obtain ⟨dn, edn⟩ := ixI (xs := [-1, -2, 1000000000000]) (n := cell % 3) (by omega) (by show _ < (3 : Int); omega)
        obtain ⟨du, edu⟩ := ixI (xs := [cell % 8, cell % 1000001, 10000000000000]) (n := cell % 3) (by omega) (by show _ < (3 : Int); omega)
        generalize hb : decide (kind % 2 = 1) = b
        have e1 : atI [V.ref (X false).p, V.ref (X true).p] (kind % 2) = some (V.ref (X b).p) := by rw [ix2 (f := fun b => V.ref (X b).p), hb]
        have e2 : atI [V.ref (X false).m, V.ref (X true).m] (kind % 2) = some (V.ref (X b).m) := by rw [ix2 (f := fun b => V.ref (X b).m), hb]
        have e3 : atI [V.ref (X false).p, V.ref (X true).p] (1 - kind % 2) = some (V.ref (X !b).p) := by rw [ix2n (f := fun b => V.ref (X b).p), hb]
        have e4 : atI [V.ref (X false).m, V.ref (X true).m] (1 - kind % 2) = some (V.ref (X !b).m) := by rw [ix2n (f := fun b => V.ref (X b).m), hb]
        have hm0 := (S.lots b).mi.ob
        have hg0 := (S.lots b).mi.gi
        repeat wtm_at "k"
        refine' lets _ (fun (n : Int) H' => Ext [] H1 H') ?mn ?ky
        case mn =>
          intro ky
          refine k_ifd (fun cA => ?_) fun cA => ?_
          · repeat wtm_at "k"
            refine k_ifd (fun cB => ?_) fun cB => ?_
            · repeat wtm_at "k"
              refine ⟨_, _, rfl, fun H2 x2 => ?_⟩
              generalize ticksOf cell (kind / 10) = n
              repeat wtm_at "k"
              refine ky n H2 ?_
              exact (Run.ext (by assumption)).trans x2
            · repeat wtm_at "k"
              exact ky _ _ (Run.ext (by assumption))
          · repeat wtm_at "k"
            refine k_ifd (fun cB => ?_) fun cB => ?_
            · repeat wtm_at "k"
              refine ⟨_, _, rfl, fun H2 x2 => ?_⟩
              generalize ticksOf cell (kind / 10) = n
              repeat wtm_at "k"
              exact ky _ _ ((Run.ext (by assumption)).trans x2)
            · repeat wtm_at "k"
              exact ky _ _ (Run.ext (by assumption))
        case ky =>
          intro n H2 x2
          obtain ⟨jn, ev, lg⟩ := jn_step (J b) word (now + d) n
          obtain ⟨d1, d2, d3⟩ := dueV_plain (M b) word (now + d) n
          have S2 := S.same x2
          have le2 : ∀ b, (M b).given.length ≤ 110 := fun b => by have := le b; omega
          refine ⟨_, _, _, L b, word, now + d, n, rfl, (S2.lots b).le, by have := (J b).l2; have := le2 b; omega, by have := (J b).l1; have := le2 b; rw [(J b).en]; omega, fun k e h => (let ⟨t, h1, _⟩ := (J b).sp k e (by rw [← (J b).en]; exact h); ⟨t, h1⟩), fun H3 hL3 x3 => ?_⟩
          rw [ev]
          have S3 := S2.told x3 hL3
          have hlp3 := S3.hlp
          have hmp3 := S3.hmp
          repeat wtm_at "k"
          refine ⟨_, _, _, _, M b, [], word, now + d, n, rfl, (S3.lots b).mi, by have := le2 b; omega, by have := (J b).l1; have := le2 b; omega, fun k e h => (let ⟨_, _, h2, h3, _⟩ := (J b).sp k e h; ⟨h2, h3⟩), fun H4 hm4 x4 => ?_⟩
          have S4 := S3.mine x4 hm4
          have J4 := setJ (b := b) J jn
          have le4 := setL le lg
          generalize hL' : toldL (L b) word (now + d) n = L' at *
          generalize hM' : dueM (M b) word (now + d) n = M' at *
          generalize dueV (M b) word (now + d) n = dv at *
          have R4 : Run [] H4 H4 := Run.start Live.nil
          have hlp4 := S4.hlp
          have hmp4 := S4.hmp
          obtain ⟨dx4, hob4⟩ := (S4.lots b).le.ob
          repeat wtm_at "k"
          refine l_neV d1 d1 d2 d2 (k_bl (k_ifnd (fun z => absurd rfl z) fun _ => ?_))
          repeat wtm_at "k"
          refine k_ifnd (fun z => absurd rfl z) fun _ => ?_
          repeat wtm_at "k"
          rename_i p5 H5 f5a f5b f5c r5 h5 s5
          have S5 := S4.same r5.ext
          generalize setB b L' L = L2 at *
          generalize setB b M' M = M2 at *
          have z2 : ∀ b, (M2 b).ends.length ≤ 900 := fun b => by have := le4 b; have := (J4 b).l1; omega
          have z1 : ∀ b, (L2 b).ends.length ≤ 1000 := fun b => by rw [(J4 b).en]; have := z2 b; omega
          have nd : ∀ b, ((L2 b).ends.map (·.1)).Nodup := fun b => by rw [(J4 b).en]; exact (J4 b).nd
          have edue : ∀ b til, (L2 b).due til = sortP (rawDue (M2 b).ends til) := fun b til => by unfold LS.due LS.dueRaw rawDue; rw [(J4 b).en]
          refine ⟨_, _, _, L2 b, now + d + du, rfl, (S5.lots b).le, z1 b, nd b, fun l H6 ys fl x6 hl6 py => ?_⟩
          have S6 := S5.same x6
          have hmp6 := S6.hmp
          repeat wtm_at "k"
          refine ⟨l, _, _, _, _, M2 b, now + d + du, ys, rfl, (S6.lots b).mi, hl6, by rw [← edue]; exact py, z2 b, (J4 b).nd, fun z => (S5.lots b).live _ (by simp [foot]) (z ▸ fl), fun H7 hm7 x7 => ?_⟩
          have S7 := S5.ended fl x6 x7 hm7
          generalize setB b { X b with c := l } X = X2 at *
          have e3 : atI [V.ref (X2 false).p, V.ref (X2 true).p] (1 - kind % 2) = some (V.ref (X2 !b).p) := by rw [ix2n (f := fun b => V.ref (X2 b).p), hb]
          have e4 : atI [V.ref (X2 false).m, V.ref (X2 true).m] (1 - kind % 2) = some (V.ref (X2 !b).m) := by rw [ix2n (f := fun b => V.ref (X2 b).m), hb]
          have hlp7 := S7.hlp
          obtain ⟨dx7, hob7⟩ := (S7.lots !b).le.ob
          repeat wtm_at "k"
          refine ⟨_, _, _, L2 !b, now + d, rfl, (S7.lots !b).le, z1 _, nd _, fun l2 H8 ys2 fl2 x8 hl8 py2 => ?_⟩
          have S8 := S7.same x8
          have hmp8 := S8.hmp
          repeat wtm_at "k"
          refine ⟨l2, _, _, _, _, M2 !b, now + d, ys2, rfl, (S8.lots !b).mi, hl8, by rw [← edue]; exact py2, z2 _, (J4 _).nd, fun z => (S7.lots !b).live _ (by simp [foot]) (z ▸ fl2), fun H9 hm9 x9 => ?_⟩
          have S9 := S7.ended fl2 x8 x9 hm9
          repeat wtm_at "k"
          exact ⟨now + d, _, L2, M2, _, _, _, _, _, _, _, _, _, _, rfl, S9, J4, fun b => by have := le4 b; omega⟩
      · obtain ⟨now, X, L, M, v4, v5, v6, v7, v8, v9, v10, v11, v12, v13, rfl, S, J, le⟩ := q
        repeat wtm_at "k"
        exact k _
end
end LW

set_option maxHeartbeats 0
namespace LW
open PySem PySem.Spec PyProof.Rows L2
def d0 : He.DefD := ⟨("Leases", some "__init__"), "__init__", "Leases.__init__", defArgs s_Leases_init, defBody s_Leases_init, defScope s_Leases_init, [], []⟩
def d1 : He.DefD := ⟨("Leases", some "grant"), "grant", "Leases.grant", defArgs s_Leases_grant, defBody s_Leases_grant, defScope s_Leases_grant, [], []⟩
def d2 : He.DefD := ⟨("Leases", some "need"), "need", "Leases.need", defArgs s_Leases_need, defBody s_Leases_need, defScope s_Leases_need, [], []⟩
def d3 : He.DefD := ⟨("Leases", some "renew"), "renew", "Leases.renew", defArgs s_Leases_renew, defBody s_Leases_renew, defScope s_Leases_renew, [], []⟩
def d4 : He.DefD := ⟨("Leases", some "drop"), "drop", "Leases.drop", defArgs s_Leases_drop, defBody s_Leases_drop, defScope s_Leases_drop, [], []⟩
def d5 : He.DefD := ⟨("Leases", some "due"), "due", "Leases.due", defArgs s_Leases_due, defBody s_Leases_due, defScope s_Leases_due, [], []⟩
def d6 : He.DefD := ⟨("_law_whole", none), "_law_whole", "_law_whole", defArgs s_l_whole, defBody s_l_whole, defScope s_l_whole, [], []⟩
def d7 : He.DefD := ⟨("_law_cell_at", none), "_law_cell_at", "_law_cell_at", defArgs s_l_cell_at, defBody s_l_cell_at, defScope s_l_cell_at, [], []⟩
def d8 : He.DefD := ⟨("_law_ticks", none), "_law_ticks", "_law_ticks", defArgs s_l_ticks, defBody s_l_ticks, defScope s_l_ticks, [], []⟩
def d9 : He.DefD := ⟨("_law_only", none), "_law_only", "_law_only", defArgs s_l_only, defBody s_l_only, defScope s_l_only, [], []⟩
def d10 : He.DefD := ⟨("_law_told", none), "_law_told", "_law_told", defArgs s_l_told, defBody s_l_told, defScope s_l_told, [], []⟩
def d11 : He.DefD := ⟨("_law_due", none), "_law_due", "_law_due", defArgs s_l_due, defBody s_l_due, defScope s_l_due, [], []⟩
def d12 : He.DefD := ⟨("_law_ending", none), "_law_ending", "_law_ending", defArgs s_l_ending, defBody s_l_ending, defScope s_l_ending, [], []⟩
def d13 : He.DefD := ⟨("law", none), "law", "law", defArgs s_law, defBody s_law, defScope s_law, [], []⟩
def fn : List He.DefD := [d0, d1, d2, d3, d4, d5, d6, d7, d8, d9, d10, d11, d12, d13]
def fa : List He.Fa := [.glo "LeaseError", .glo "BadTicks", .glo "NoLease", .glo "NoKey", .glo "Held", .glo "NoStart", .glo "NoWatch", .glo "Leases", .glo "_law_whole", .glo "_law_cell_at", .glo "_law_ticks", .glo "_law_only", .glo "_law_told", .glo "_law_due", .glo "_law_ending", .glo "law", .free "isinstance", .free "len", .free "sorted", .free "range", .free "int", .free "bool", .free "str", .free "list", .free "tuple", .free "ValueError", .free "min", .free "max", .free "abs", .free "zip", .int "MOST_TICKS" 1000000, .exc "LeaseError", .exc "BadTicks", .exm "BadTicks" "LeaseError" true, .exc "NoLease", .exm "NoLease" "LeaseError" true, .exc "NoKey", .exm "NoKey" "LeaseError" true, .exc "Held", .exm "Held" "LeaseError" true, .exc "NoStart", .exm "NoStart" "LeaseError" true, .exc "NoWatch", .exm "NoWatch" "LeaseError" true, .cls "Leases", .mkr "Leases", .noat "Leases" "given", .noat "Leases" "spans", .noat "Leases" "ends", .meth "Leases" "grant", .meth "Leases" "need", .meth "Leases" "renew", .meth "Leases" "drop", .meth "Leases" "due"]
def exq (K : PySem.W.Frag) : Bool := exkB (["BadTicks", "NoLease", "NoKey", "Held", "NoStart", "NoWatch"] : List Str) K
abbrev RW : PySem.W.OpenRow := PySem.W.OpenLaw.row PySem.Challenge.rw_leasewatch_k01_leases_by_themselves
abbrev hk : PySem.W.Hook := He.hookX 6 fa fn [] [] exq
def ob (s : PySem.W.SharedT) : He.AlX := He.obsX 6 fa fn [] [] exq (HandSHeadRun.getT s)
theorem ob_eq (s : PySem.W.SharedT) : ob s = hk.obs s.abs := He.obsX_eq (HandSHeadRun.getT_eq s)
def loose : List Str := (["BadTicks", "Held", "LeaseError", "Leases", "MOST_TICKS", "NoKey", "NoLease", "NoStart", "NoWatch", "_law_cell_at", "_law_due", "_law_ending", "_law_only", "_law_ticks", "_law_told", "_law_whole"] : List Str)
theorem run (w : World) : HandSHeadRun.RunEq RW (PySem.W.view RW.prog [19]) hk ob 3000 loose w := by
  intro os
  kernel_rfl
theorem fx_of {w : World} {K : PySem.W.Frag} {h : Heap} {mg : Str → Option Value} (X : K.In h) (G : h.Ns mainGlobals mg) (c0 : He.SaysX fa fn [] [] exq w h K) : FX K mg := by
  have c := c0.t.d
  exact ⟨
    He.glo_ok X G ((c.fact 0 (f := .glo "LeaseError") rfl)),
    He.glo_ok X G ((c.fact 1 (f := .glo "BadTicks") rfl)),
    He.glo_ok X G ((c.fact 2 (f := .glo "NoLease") rfl)),
    He.glo_ok X G ((c.fact 3 (f := .glo "NoKey") rfl)),
    He.glo_ok X G ((c.fact 4 (f := .glo "Held") rfl)),
    He.glo_ok X G ((c.fact 5 (f := .glo "NoStart") rfl)),
    He.glo_ok X G ((c.fact 6 (f := .glo "NoWatch") rfl)),
    He.glo_ok X G ((c.fact 7 (f := .glo "Leases") rfl)),
    He.glo_ok X G ((c.fact 8 (f := .glo "_law_whole") rfl)),
    He.glo_ok X G ((c.fact 9 (f := .glo "_law_cell_at") rfl)),
    He.glo_ok X G ((c.fact 10 (f := .glo "_law_ticks") rfl)),
    He.glo_ok X G ((c.fact 11 (f := .glo "_law_only") rfl)),
    He.glo_ok X G ((c.fact 12 (f := .glo "_law_told") rfl)),
    He.glo_ok X G ((c.fact 13 (f := .glo "_law_due") rfl)),
    He.glo_ok X G ((c.fact 14 (f := .glo "_law_ending") rfl)),
    He.glo_ok X G ((c.fact 15 (f := .glo "law") rfl)),
    He.free_ok X G ((c.fact 16 (f := .free "isinstance") rfl)),
    He.free_ok X G ((c.fact 17 (f := .free "len") rfl)),
    He.free_ok X G ((c.fact 18 (f := .free "sorted") rfl)),
    He.free_ok X G ((c.fact 19 (f := .free "range") rfl)),
    He.free_ok X G ((c.fact 20 (f := .free "int") rfl)),
    He.free_ok X G ((c.fact 21 (f := .free "bool") rfl)),
    He.free_ok X G ((c.fact 22 (f := .free "str") rfl)),
    He.free_ok X G ((c.fact 23 (f := .free "list") rfl)),
    He.free_ok X G ((c.fact 24 (f := .free "tuple") rfl)),
    He.free_ok X G ((c.fact 25 (f := .free "ValueError") rfl)),
    He.free_ok X G ((c.fact 26 (f := .free "min") rfl)),
    He.free_ok X G ((c.fact 27 (f := .free "max") rfl)),
    He.free_ok X G ((c.fact 28 (f := .free "abs") rfl)),
    He.free_ok X G ((c.fact 29 (f := .free "zip") rfl)),
    He.int_ok X G ((c.fact 30 (f := .int "MOST_TICKS" 1000000) rfl)),
    He.exc_ok ((c.fact 31 (f := .exc "LeaseError") rfl)),
    He.exc_ok ((c.fact 32 (f := .exc "BadTicks") rfl)),
    He.exm_ok ((c.fact 33 (f := .exm "BadTicks" "LeaseError" true) rfl)),
    He.exc_ok ((c.fact 34 (f := .exc "NoLease") rfl)),
    He.exm_ok ((c.fact 35 (f := .exm "NoLease" "LeaseError" true) rfl)),
    He.exc_ok ((c.fact 36 (f := .exc "NoKey") rfl)),
    He.exm_ok ((c.fact 37 (f := .exm "NoKey" "LeaseError" true) rfl)),
    He.exc_ok ((c.fact 38 (f := .exc "Held") rfl)),
    He.exm_ok ((c.fact 39 (f := .exm "Held" "LeaseError" true) rfl)),
    He.exc_ok ((c.fact 40 (f := .exc "NoStart") rfl)),
    He.exm_ok ((c.fact 41 (f := .exm "NoStart" "LeaseError" true) rfl)),
    He.exc_ok ((c.fact 42 (f := .exc "NoWatch") rfl)),
    He.exm_ok ((c.fact 43 (f := .exm "NoWatch" "LeaseError" true) rfl)),
    exk_of c0.more,
    He.cls_ok ((c.fact 44 (f := .cls "Leases") rfl)),
    He.mkr_ok ((c.fact 45 (f := .mkr "Leases") rfl)),
    He.noat_ok ((c.fact 46 (f := .noat "Leases" "given") rfl)),
    He.noat_ok ((c.fact 47 (f := .noat "Leases" "spans") rfl)),
    He.noat_ok ((c.fact 48 (f := .noat "Leases" "ends") rfl)),
    He.meth_ok ((c.fact 49 (f := .meth "Leases" "grant") rfl)),
    He.meth_ok ((c.fact 50 (f := .meth "Leases" "need") rfl)),
    He.meth_ok ((c.fact 51 (f := .meth "Leases" "renew") rfl)),
    He.meth_ok ((c.fact 52 (f := .meth "Leases" "drop") rfl)),
    He.meth_ok ((c.fact 53 (f := .meth "Leases" "due") rfl)),
    fdAt_of (c.def_ 0 (d := d0) rfl),
    fdAt_of (c.def_ 1 (d := d1) rfl),
    fdAt_of (c.def_ 2 (d := d2) rfl),
    fdAt_of (c.def_ 3 (d := d3) rfl),
    fdAt_of (c.def_ 4 (d := d4) rfl),
    fdAt_of (c.def_ 5 (d := d5) rfl),
    fdAt_of (c.def_ 6 (d := d6) rfl),
    fdAt_of (c.def_ 7 (d := d7) rfl),
    fdAt_of (c.def_ 8 (d := d8) rfl),
    fdAt_of (c.def_ 9 (d := d9) rfl),
    fdAt_of (c.def_ 10 (d := d10) rfl),
    fdAt_of (c.def_ 11 (d := d11) rfl),
    fdAt_of (c.def_ 12 (d := d12) rfl),
    fdAt_of (c.def_ 13 (d := d13) rfl)⟩
end LW
open PySem PySem.W PySem.Calls PyProof.Rows
theorem PySem.Challenge.cw_leasewatch_k01_leases_by_themselves_holds : PySem.Challenge.rw_leasewatch_k01_leases_by_themselves.Holds := by
  w_on; o_law
  refine HandSHeadRun.head_any (r := OpenLaw.row PySem.Challenge.rw_leasewatch_k01_leases_by_themselves) (q := view (OpenLaw.row PySem.Challenge.rw_leasewatch_k01_leases_by_themselves).prog [19]) (H := LW.hk) (ob := LW.ob) (M := 3000) (loose := LW.loose) (d := HandSHeadRun.topDef (OpenLaw.row PySem.Challenge.rw_leasewatch_k01_leases_by_themselves).prog 19) (kwd := []) LW.ob_eq
    (by kernel_rfl) (fun s => by kernel_rfl) LW.run (by kernel_rfl) (by kernel_rfl) (by kernel_rfl) (by rfl) (by first | assumption | decide +kernel) (by decide +kernel) ⟨rfl, rfl, rfl, rfl, rfl, by decide +kernel⟩ ?hw ?hc
  case hw => w_witness2
  case hc =>
    refine L2.walk_ofE (l := PySem.Challenge.rw_leasewatch_k01_leases_by_themselves) (n := 63) (k := 4) (x := "_law_script") (CX := L2.CX0) rfl (by decide) (by kernel_rfl) ⟨rfl, by decide, by decide⟩ ?F (fun _ _ _ _ z => z)
    intro w mg fa h Y G hmg0
    obtain ⟨K, KX, c⟩ := Y
    have hmg : mg ("law" : PySem.Str) = some (.ref fa) := by
      have e : (HandSHeadRun.topDef (OpenLaw.row PySem.Challenge.rw_leasewatch_k01_leases_by_themselves).prog 19).name = ("law" : PySem.Str) := by kernel_rfl
      rw [← e]
      exact hmg0
    have T := LW.fx_of KX G c
    have e := hmg.symm.trans T.g_law
    cases e
    have b := L2.FunD.bindsA (ps := ["_law_script"]) T.F_law fun _ _ _ _ _ _ us hl => match us, hl with | [_], _ => rfl
    exact ⟨K, LW.fdAt K ("law", none), LW.sp_law K, KX, fun s v => b s [v] rfl, fun H a ns hl _ hS => ⟨a, ns, rfl, hl, hS, fun _ => rfl⟩, fun base _ _ => LW.fn_out (LW.ok_law T) fun _ _ _ _ z => z⟩
