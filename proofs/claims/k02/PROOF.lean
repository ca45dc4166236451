import PyProof.Rows.All
import Wide.All
import OpenK.AllK
import Wide.FinOn
import KE.KStateDown
import HandS.ForMost
import HandS.ForExc
import HandS.More
import HandS.Defaults
import HandS.MakeKw
import HandS.ExcIs
import HandS.ExcCtx
import HandS.HotCalls
import HandS.IsInst
import HandS.SortRule
import HandS.SortInts
import HandS.Deep
import HandS.HeadHook4
import PySem.Challenge.RW_leasewatch_k02_changes_by_numbers
import HandS.Head0
import HandS.Head1
import HandS.Head2
import HandS.HeadEnd
import HandS.HeadHook1
import HandS.HeadHook2
import HandS.HeadHook3
set_option Elab.async false
set_option linter.all false
set_option maxRecDepth 100000
set_option maxHeartbeats 4000000
namespace LW
open PySem PySem.Spec PyProof.Rows L2
abbrev St := L2.St

/-! ### where a def stands, its record -/
abbrev Nm := Str × Option Str
def fd0 : FuncData := PySem.W.fnOf Str.empty Str.empty { posonlyargs := [], args := [], vararg := none, kwonlyargs := [], kw_defaults := [], kwarg := none, defaults := [] } [] { kind := .function, names := [], isGenerator := false, isCoroutine := false } .none .none .none .none none .none .none
def fdAt (K : PySem.W.Frag) (p : Nm) : FuncData := match K.lookup (He.fAd K p) with
  | some ⟨_, _, .func fd, _⟩ => fd
  | _ => fd0
theorem fdAt_of {K : PySem.W.Frag} {p : Nm} {x qual : Str} {params : Arguments} {body : List Stmt} {scope : Scope} {dvs : List V} {kws : List (Str × V)}
    (h : ∃ fd, FunD K x qual params body scope dvs kws (He.fAd K p) fd) : FunD K x qual params body scope dvs kws (He.fAd K p) (fdAt K p) := by
  obtain ⟨fd, F⟩ := h
  obtain ⟨oc, od, dV, kV, doc, pm, an, cdv, ct, osl, e, lk, hcd, hD, hK⟩ := id F.ex
  have q : fdAt K p = fd := by
    unfold fdAt
    rw [lk]
  rw [q]
  exact F

/-! ### calls where what is raised is wished for at the caller's slots -/
section
variable {X : Cx} {CX : CXT} {k n : Nat} {f C : Addr} {fd : FuncData} {ps ks : List Str} {sp : Sp} {E : St → XK} {x m : Str} {p pos apos : Pos} {e o : Expr} {es : List Expr} {kws : List Keyword} {ta : TE} {t tk : TA}
  {g : List Value → List Value → List Value} {gV : List V → List V → List V}
theorem run_g {pins : List (Addr × Obj)} {σ : St} {H : Hp} {s : Shared} {Q : VK} {us ws : List Value} {vs zs : List V} {E : XK} (F : FnOk X.prog X.w X.K X.mg X.base CX k f fd ps sp) (hr : Room k X.A)
    (hb : KBn X.K fd ps n ks g gV) (hx : PassesAt CX X σ E) (I : Inv X pins σ H s) (r : Vals vs us) (rz : Vals zs ws) (l1 : vs.length = n) (l2 : zs.length = ks.length) (h : sp (gV vs zs) H Q E) :
    wpAny (model X.prog X.w) X.A (call (.ref f) us (ks.zip ws)) (EP X pins σ Q) X.xe s := by
  have r2 := hb.rel r rz
  have b := hb.to s us ws I.kIn (r.length.symm.trans l1) (rz.length.symm.trans l2)
  refine wpAny_call (codeAny_mono (F.run X.A X.stack s H _ (g us ws) (gV vs zs) Q E hr I.env0 b r2 h) fun res s' hq => ?_)
  match res, hq with
  | .error e, hq => exact hx pins H s e s' I hq
  | .ok (.ret u), hq => exact I.after hq
/-- o.m(e, .., k = v, ..): n values with the object itself -/
def tMethG (C : Addr) (m : Str) (n j : Nat) (sp : Sp) (gV : List V → List V → List V) (E : St → XK) (ta : TE) (t tk : TA) : TE := fun σ H Q => ta σ H fun x H1 =>
  ∃ a dx fs, x = .ref a ∧ H1 a = some (.ins C dx fs) ∧ fs.lookup m = none ∧ t σ H1 fun vs H2 => tk σ H2 fun zs H3 => (x :: vs).length = n ∧ zs.length = j ∧ sp (gV (x :: vs) zs) H3 Q (E σ)
theorem pe_methG {pl : Sem Bool} (he : PE X o ta) (c : Cls X.K C) (hm : Meth X.K C m f) (F : FnOk X.prog X.w X.K X.mg X.base CX k f fd ps sp) (hr : Room k X.A) (hb : KBn X.K fd ps n ks g gV)
    (hx : ∀ σ, PassesAt CX X σ (E σ)) (ha : PA X (e :: es) t) (hkw : PK X kws tk)
    (hall : (backToKw pos (keywordEach kws X.env)).all (·.1.isSome) = true := by rfl) (hks : (backToKw pos (keywordEach kws X.env)).filterMap (·.1) = ks := by rfl)
    (hst : starEach (e :: es) X.env = (false, eval e X.env) :: starEach es X.env := by rfl)
    (hpl : ((backTo pos (starEach (e :: es) X.env)).any (·.1) || (backToKw pos (keywordEach kws X.env)).any (·.1.isNone)) = false := by rfl)
    (ht : eval (.Call (.Attribute o m apos) (e :: es) kws pos) X.env = (do
      let ov ← eval o X.env
      standAt apos.atName
      let (f, first) ← holding [ov] (getMethod ov m pl)
      callWith pos f first (backTo pos (starEach (e :: es) X.env)) (backToKw pos (keywordEach kws X.env))) := by rfl) :
    PE X (.Call (.Attribute o m apos) (e :: es) kws pos) (tMethG C m n ks.length sp gV E ta t tk) := by
  refine ⟨fun pins s σ H Q I h => ?_⟩
  refine PySem.W.methodCall_KW (pl := pl) (thn (he.run pins s σ H _ I h) fun u s1 hh => ?_) ht
  obtain ⟨y, H1, I1, rx, a, dx, fs, ex, ea, l, q⟩ := hh
  subst ex
  obtain rfl : u = Value.ref a := rx
  refine getmeth_ok I1 ea c hm l ?_
  refine PySem.W.callWith_KW (first := [.ref a]) (h₀ := X.base) I.ok.mod.kin hm.kp hall (thn (ha.run pos pins s1 σ H1 _ I1 q) fun us s2 h2 => ?_) hpl hst
  obtain ⟨vs, H2, I2, r, q2⟩ := h2
  refine thn (hkw.run pos pins s2 σ H2 _ I2 q2) fun ws s3 h3 => ?_
  obtain ⟨zs, H3, I3, rz, l1, l2, q3⟩ := h3
  refine ⟨I3.kIn, ?_⟩
  rw [hks]
  exact run_g (us := .ref a :: us) (vs := .ref a :: vs) F hr hb (hx σ) I3 (.cons rfl r) rz l1 l2 q3
/-- o.m(): no value but the object -/
def tMeth0 (C : Addr) (m : Str) (sp : Sp) (E : St → XK) (ta : TE) : TE := fun σ H Q => ta σ H fun x H1 =>
  ∃ a dx fs, x = .ref a ∧ H1 a = some (.ins C dx fs) ∧ fs.lookup m = none ∧ sp [x] H1 Q (E σ)
theorem pe_meth0S {pl : Sem Bool} (he : PE X o ta) (c : Cls X.K C) (hm : Meth X.K C m f) (F : FnOk X.prog X.w X.K X.mg X.base CX k f fd ps sp) (hr : Room k X.A) (hb : Binds X.K fd ps [])
    (hx : ∀ σ, PassesAt CX X σ (E σ))
    (ht : eval (.Call (.Attribute o m apos) [] [] pos) X.env = (do
      let ov ← eval o X.env
      standAt apos.atName
      let (f, first) ← holding [ov] (getMethod ov m pl)
      callWith pos f first (backTo pos (starEach [] X.env)) (backToKw pos (keywordEach [] X.env))) := by rfl) :
    PE X (.Call (.Attribute o m apos) [] [] pos) (tMeth0 C m sp E ta) := by
  refine ⟨fun pins s σ H Q I h => ?_⟩
  refine PySem.W.methodCall_KW (pl := pl) (thn (he.run pins s σ H _ I h) fun u s1 hh => ?_) ht
  obtain ⟨y, H1, I1, rx, a, dx, fs, ex, ea, l, q⟩ := hh
  subst ex
  obtain rfl : u = Value.ref a := rx
  refine getmeth_ok I1 ea c hm l ?_
  refine PySem.W.callWith_K0 (first := [.ref a]) I1.kIn hm.kp ?_
  exact run_fnS (us := [.ref a]) (vs := [.ref a]) F hr hb (hx σ) I1 (.cons rfl .nil) q
/-- o.m(e, ..): every parameter is given -/
def tMethS (C : Addr) (m : Str) (sp : Sp) (E : St → XK) (ta : TE) (t : TA) : TE := fun σ H Q => ta σ H fun x H1 =>
  ∃ a dx fs, x = .ref a ∧ H1 a = some (.ins C dx fs) ∧ fs.lookup m = none ∧ t σ H1 fun vs H2 => sp (x :: vs) H2 Q (E σ)
theorem pe_methS {pl : Sem Bool} (he : PE X o ta) (c : Cls X.K C) (hm : Meth X.K C m f) (F : FnOk X.prog X.w X.K X.mg X.base CX k f fd ps sp) (hr : Room k X.A) (hb : Binds X.K fd ps [])
    (hx : ∀ σ, PassesAt CX X σ (E σ)) (ha : PA X (e :: es) t)
    (hst : starEach (e :: es) X.env = (false, eval e X.env) :: starEach es X.env := by rfl) (hpl : (backTo pos (starEach es X.env)).any (·.1) = false := by rfl)
    (ht : eval (.Call (.Attribute o m apos) (e :: es) [] pos) X.env = (do
      let ov ← eval o X.env
      standAt apos.atName
      let (f, first) ← holding [ov] (getMethod ov m pl)
      callWith pos f first (backTo pos (starEach (e :: es) X.env)) (backToKw pos (keywordEach [] X.env))) := by rfl) :
    PE X (.Call (.Attribute o m apos) (e :: es) [] pos) (tMethS C m sp E ta t) := by
  refine ⟨fun pins s σ H Q I h => ?_⟩
  refine PySem.W.methodCall_KW (pl := pl) (thn (he.run pins s σ H _ I h) fun u s1 hh => ?_) ht
  obtain ⟨y, H1, I1, rx, a, dx, fs, ex, ea, l, q⟩ := hh
  subst ex
  obtain rfl : u = Value.ref a := rx
  refine getmeth_ok I1 ea c hm l ?_
  refine PySem.W.callWith_K (first := [.ref a]) (h₀ := X.base) I.ok.mod.kin hm.kp (thn (ha.run pos pins s1 σ H1 _ I1 q) fun us s2 h2 => ?_) hst hpl
  obtain ⟨vs, H2, I2, r, q2⟩ := h2
  exact ⟨I2.kIn, run_fnS (us := .ref a :: us) (vs := .ref a :: vs) F hr hb (hx σ) I2 (.cons rfl r) q2⟩
/-- f(): no parameter -/
theorem pe_callS0 (F : FnOk X.prog X.w X.K X.mg X.base CX k f fd ps sp) (hr : Room k X.A) (hg : Gl X x) (hm : X.mg x = some (.ref f)) (hk : PySem.W.keepIn X.K (.ref f) = true) (hb : Binds X.K fd ps [])
    (hx : ∀ σ, PassesAt CX X σ (E σ)) (hdb : (x == ("__debug__" : Str)) = false := by decide) : PE X (.Call (.Name x p) [] [] pos) (tCallS sp E tNil) := by
  refine ⟨fun pins s σ H Q I h => ?_⟩
  refine wpAny_Call_Name_kw (ld_glob I hg hm ?_ hdb)
  exact PySem.W.callWith_K0 I.kIn hk (run_fnS (us := []) F hr hb (hx σ) I .nil h)

/-! ### constructors, what is raised wished for at the caller's slots -/
def LMake (C : Addr) (as : Addr → List V) (sp : Sp) (H : Hp) (Q : VK) (E : XK) : Prop := ∀ x dx, H x = none → H dx = none → dx ≠ x → sp (as x) (upd (upd H dx (.own x)) x (.ins C dx [])) (fun v H2 => v = .non ∧ Q (.ref x) H2) E
theorem run_makeG {pins : List (Addr × Obj)} {σ : St} {H : Hp} {s : Shared} {Q : VK} {us ws : List Value} {vs zs : List V} {E : XK} (M : Mk X.K C f) (F : FnOk X.prog X.w X.K X.mg X.base CX k f fd ps sp) (hr : Room (k + 1) X.A) (hb : KBn X.K fd ps (n + 1) ks g gV)
    (hx : PassesAt CX X σ E) (I : Inv X pins σ H s) (r : Vals vs us) (rz : Vals zs ws) (l1 : vs.length = n) (l2 : zs.length = ks.length)
    (h : LMake C (fun x => gV (.ref x :: vs) zs) sp H Q E) :
    wpAny (model X.prog X.w) X.A (call (.ref C) us (ks.zip ws)) (EP X pins σ Q) X.xe s := by
  have hq := h (s.heap.objs.size + 1) s.heap.objs.size (I.hok.fresh (Nat.le_succ _)) (I.hok.fresh (Nat.le_refl _)) (Nat.ne_of_lt (Nat.lt_succ_self _))
  have I2 := Inv.made (C := C) I
  have r1 : Vals (V.ref (s.heap.objs.size + 1) :: vs) (Value.ref (s.heap.objs.size + 1) :: us) := .cons rfl r
  have r2 := hb.rel r1 rz
  have e1 : (Value.ref (s.heap.objs.size + 1) :: us).length = n + 1 := r1.length.symm.trans (congrArg Nat.succ l1)
  have e2 : ws.length = ks.length := rz.length.symm.trans l2
  refine wpAny_call (make_map (f := f) I.kIn M.makes M.init (beq_iff_eq.mp M.fn) (codeAny_mono (F.run _ X.stack _ _ ⟨Value.ref (s.heap.objs.size + 1) :: us, ks.zip ws⟩ (g (Value.ref (s.heap.objs.size + 1) :: us) ws) _ _ E (hr.make C us (ks.zip ws))
    (I2.env0.make C us (ks.zip ws)) (hb.to _ (Value.ref (s.heap.objs.size + 1) :: us) ws I2.kIn e1 e2) r2 hq) fun r s' hq' => ?_))
  cases r with
  | error e => exact hx pins _ _ e s' I2 hq'
  | ok fl =>
    cases fl with
    | ret u =>
      obtain ⟨v, H', I3, rv, ev, q3⟩ := I2.after hq'
      subst ev
      exact ⟨rv, ⟨V.ref (s.heap.objs.size + 1), H', I3, rfl, q3⟩⟩
    | next => exact False.elim hq'
    | brk => exact False.elim hq'
    | cont => exact False.elim hq'
theorem run_makeS {pins : List (Addr × Obj)} {σ : St} {H : Hp} {s : Shared} {Q : VK} {us : List Value} {vs : List V} {E : XK} (M : Mk X.K C f) (F : FnOk X.prog X.w X.K X.mg X.base CX k f fd ps sp) (hr : Room (k + 1) X.A) (hb : Binds X.K fd ps [])
    (hx : PassesAt CX X σ E) (I : Inv X pins σ H s) (r : Vals vs us) (h : LMake C (fun x => .ref x :: vs) sp H Q E) :
    wpAny (model X.prog X.w) X.A (call (.ref C) us) (EP X pins σ Q) X.xe s := by
  have hq := h (s.heap.objs.size + 1) s.heap.objs.size (I.hok.fresh (Nat.le_succ _)) (I.hok.fresh (Nat.le_refl _)) (Nat.ne_of_lt (Nat.lt_succ_self _))
  have I2 := Inv.made (C := C) I
  have r2 : Vals (V.ref (s.heap.objs.size + 1) :: vs) (Value.ref (s.heap.objs.size + 1) :: us) := .cons rfl r
  have hl : (Value.ref (s.heap.objs.size + 1) :: us ++ []).length = ps.length := by
    have e := r2.length
    rw [F.len _ _ _ _ hq] at e
    rw [List.append_nil]
    exact e.symm
  have b := hb _ (Value.ref (s.heap.objs.size + 1) :: us) I2.kIn hl
  rw [List.append_nil] at b
  refine wpAny_call (make_map (f := f) I.kIn M.makes M.init (beq_iff_eq.mp M.fn) (codeAny_mono (F.run _ X.stack _ _ ⟨Value.ref (s.heap.objs.size + 1) :: us, []⟩ (Value.ref (s.heap.objs.size + 1) :: us) _ _ E (hr.make C us [])
    (I2.env0.make C us []) b r2 hq) fun r s' hq' => ?_))
  cases r with
  | error e => exact hx pins _ _ e s' I2 hq'
  | ok fl =>
    cases fl with
    | ret u =>
      obtain ⟨v, H', I3, rv, ev, q3⟩ := I2.after hq'
      subst ev
      exact ⟨rv, ⟨V.ref (s.heap.objs.size + 1), H', I3, rfl, q3⟩⟩
    | next => exact False.elim hq'
    | brk => exact False.elim hq'
    | cont => exact False.elim hq'
/-- C(e, ..): every parameter is given -/
def tMakeS (C : Addr) (sp : Sp) (E : St → XK) (t : TA) : TE := fun σ H Q => t σ H fun vs H1 => LMake C (fun x => .ref x :: vs) sp H1 Q (E σ)
theorem pe_makeS (M : Mk X.K C f) (F : FnOk X.prog X.w X.K X.mg X.base CX k f fd ps sp) (hr : Room (k + 1) X.A) (hg : Gl X x) (hm : X.mg x = some (.ref C)) (hb : Binds X.K fd ps [])
    (hx : ∀ σ, PassesAt CX X σ (E σ)) (ha : PA X (e :: es) t) (hdb : (x == ("__debug__" : Str)) = false := by decide) (he : starEach (e :: es) X.env = (false, eval e X.env) :: starEach es X.env := by rfl) (hpl : (backTo pos (starEach es X.env)).any (·.1) = false := by rfl) :
    PE X (.Call (.Name x p) (e :: es) [] pos) (tMakeS C sp E t) := by
  refine ⟨fun pins s σ H Q I h => ?_⟩
  refine wpAny_Call_Name_kw (ld_glob I hg hm ?_ hdb)
  refine PySem.W.callWith_K (h₀ := X.base) I.ok.mod.kin M.kp (thn (ha.run pos pins s σ H _ I h) fun us s1 ⟨vs, H1, I1, r, q⟩ => ⟨I1.kIn, ?_⟩) he hpl
  exact run_makeS M F hr hb (hx σ) I1 r q
theorem pe_makeS0 (M : Mk X.K C f) (F : FnOk X.prog X.w X.K X.mg X.base CX k f fd ps sp) (hr : Room (k + 1) X.A) (hg : Gl X x) (hm : X.mg x = some (.ref C)) (hb : Binds X.K fd ps [])
    (hx : ∀ σ, PassesAt CX X σ (E σ)) (hdb : (x == ("__debug__" : Str)) = false := by decide) : PE X (.Call (.Name x p) [] [] pos) (tMakeS C sp E tNil) := by
  refine ⟨fun pins s σ H Q I h => ?_⟩
  refine wpAny_Call_Name_kw (ld_glob I hg hm ?_ hdb)
  exact PySem.W.callWith_K0 I.kIn M.kp (run_makeS (us := []) M F hr hb (hx σ) I .nil h)
/-- C(e, .., k = v, ..) -/
def tMakeG (C : Addr) (n m : Nat) (sp : Sp) (gV : List V → List V → List V) (E : St → XK) (t tk : TA) : TE := fun σ H Q => t σ H fun vs H1 => tk σ H1 fun zs H2 => vs.length = n ∧ zs.length = m ∧ LMake C (fun x => gV (.ref x :: vs) zs) sp H2 Q (E σ)
theorem pe_makeG (M : Mk X.K C f) (F : FnOk X.prog X.w X.K X.mg X.base CX k f fd ps sp) (hr : Room (k + 1) X.A) (hg : Gl X x) (hm : X.mg x = some (.ref C)) (hb : KBn X.K fd ps (n + 1) ks g gV)
    (hx : ∀ σ, PassesAt CX X σ (E σ)) (ha : PA X (e :: es) t) (hkw : PK X kws tk) (hall : (backToKw pos (keywordEach kws X.env)).all (·.1.isSome) = true := by rfl) (hks : (backToKw pos (keywordEach kws X.env)).filterMap (·.1) = ks := by rfl)
    (hdb : (x == ("__debug__" : Str)) = false := by decide) (he : starEach (e :: es) X.env = (false, eval e X.env) :: starEach es X.env := by rfl)
    (hpl : ((backTo pos (starEach (e :: es) X.env)).any (·.1) || (backToKw pos (keywordEach kws X.env)).any (·.1.isNone)) = false := by rfl) :
    PE X (.Call (.Name x p) (e :: es) kws pos) (tMakeG C n ks.length sp gV E t tk) := by
  refine ⟨fun pins s σ H Q I h => ?_⟩
  refine wpAny_Call_Name_kw (ld_glob I hg hm ?_ hdb)
  refine PySem.W.callWith_KW (h₀ := X.base) I.ok.mod.kin M.kp hall (thn (ha.run pos pins s σ H _ I h) fun us s1 ⟨vs, H1, I1, r, q⟩ => ?_) hpl he
  refine thn (hkw.run pos pins s1 σ H1 _ I1 q) fun ws s2 ⟨zs, H2, I2, rz, l1, l2, q2⟩ => ⟨I2.kIn, ?_⟩
  rw [hks]
  exact run_makeG M F hr hb (hx σ) I2 r rz l1 l2 q2
end
end LW

set_option maxHeartbeats 4000000
namespace LW
open PySem PySem.Spec PyProof.Rows L2 L2H HotX
/-! ### a def that is called within an except suite, the caught exception among its arguments -/
/-- sp: the exception's address, class, own dict, then as a promise -/
abbrev SpE := Addr → Value → Option Addr → Sp
structure FnE (P : Program) (w : World) (K : PySem.W.Frag) (mg : Str → Option Value) (base : Heap) (k : Nat) (f : Addr) (fd : FuncData) (ps : List Str) (sp : SpE) : Prop where
  len : ∀ a c d vs H Q E, sp a c d vs H Q E → vs.length = ps.length
  run : ∀ (A : Around) (outer : List Env) (s : Shared) (H : Hp) (args : Args) (us : List Value) (vs : List V) (Q : VK) (E : XK) (q : Addr × Obj) (c : Value) (d : Option Addr), RoomH k A → Hot1 A q → PinOk outer H s q →
    Zc c d q.2 → Env0 P w K mg base A outer s H → BindsTo s fd args (ps.zip us) → Vals vs us → sp q.1 c d vs H Q E → codeAny (model P w) A (.call (.ref f) args) (CR CX0 outer P w H s Q E) s
theorem fnE_of {P : Program} {w : World} {K : PySem.W.Frag} {mg : Str → Option Value} {base : Heap} {k : Nat} {f : Addr} {fd : FuncData} {x qual : Str} {params : Arguments} {body : List Stmt} {scope : Scope} {dvs : List V} {kws : List (Str × V)}
    {N ps : List Str} {sp : SpE} (F : FunD K x qual params body scope dvs kws f fd) (S : FnScope N ps scope) (len : ∀ a c d vs H Q E, sp a c d vs H Q E → vs.length = ps.length)
    (hbody : ∀ (cdv : Value) (A : Around) (outer : List Env) (s : Shared) (H : Hp) (vs : List V) (Q : VK) (E : XK) (q : Addr × Obj) (c : Value) (d : Option Addr), Hot1 A q → Zc c d q.2 →
      RoomH k (A.deeper (envOfC qual scope s.heap.objs.size f cdv)) → sp q.1 c d vs H Q E →
      ∃ t, PSs (cxH CX0 P w K mg base N qual scope f cdv A outer s H E q) body t ∧ t { nx := fun _ H' => Q .non H', rt := Q } (L2.start N vs) H) : FnE P w K mg base (k + 1) f fd ps sp := by
  obtain ⟨oc, od, dV, kV, doc, pm, an, cdv, ct, osl, rfl, lk, hcd, _, _⟩ := F.ex
  constructor
  · exact len
  intro A outer s H args us vs Q E q c d hr hot hpin hz e0 hb r hsp
  have hl := len _ _ _ _ _ _ _ hsp
  have KX : K.In s.heap := e0.mod.kin.keeps fun b o e => (e0.bs b o e).1
  have lim : s.heap.NoLimit := e0.mod.nolimit.keeps fun b o e => (e0.bs b o e).1
  have hkd : ∀ y ∈ ps.zip us, scope.names.lookup y.1 = some .local ∨ (scope.names.lookup y.1 = some .cell ∧ ((cellsFrom (s.heap.objs.size + 1) scope.names []).lookup y.1).isSome = true) := by
    rintro ⟨n, v⟩ hy
    rcases S.par n (List.of_mem_zip hy).1 with z | z
    · exact .inl z
    · exact .inr ⟨z, PySem.W.cellsFrom_some _ _ _ (.inl z)⟩
  refine codeAny_call_function hr.depth (KX _ _ lk) rfl S.co S.gen rfl (PySem.W.codeRec_of KX hcd) (hb _ _ _ _ ?_)
  refine wpAny_newFunctionEnv_cells S.kind hkd fun env he s1 xx => ?_
  subst he
  refine ⟨lim.keeps xx.toInCall.keep, codeAny_func ?_⟩
  obtain ⟨t, ht, hq⟩ := hbody cdv A outer s H vs Q E q c d hot hz (hr.deeper _) hsp
  have I := inv_startH (CX := CX0) (E := E) S hpin e0 hl r xx
  refine wpAny_mono (ht.run [] s1 (L2.start N vs) H _ I hq) (fun fl s' hs => ?_) fun e s' hs => hs
  match fl, hs with
  | .ret u, hs =>
    obtain ⟨v, σ', H', J, rv, z⟩ := hs
    exact ⟨v, H', J.os, J.bare, J.base, J.hok, rv, z⟩
  | .next, hs =>
    obtain ⟨σ', H', J, z⟩ := hs
    exact ⟨V.non, H', J.os, J.bare, J.base, J.hok, (rfl : RelV .non Value.none), z⟩
  | .brk, hs => exact (let ⟨_, _, _, z⟩ := hs; z.elim)
  | .cont, hs => exact (let ⟨_, _, _, z⟩ := hs; z.elim)

/-! ### exceptions of one's own: what isinstance tells of them -/
def exC1 (K : PySem.W.Frag) (D : Addr) : Bool :=
  PySem.W.findIn K (.ref D) "__getattribute__" == some (some (.builtin "BaseException.__getattribute__")) && PySem.W.findIn K (.ref D) "__getattr__" == some none && PySem.W.subIn K (.ref D) (.type "BaseException") == some true && PySem.W.hasDictIn K D &&
  PySem.W.findIn K (.ref D) "__class__" == some (some (.builtin "object.__class__")) && PySem.W.specialIn K (.builtin "object.__class__") "__get__" == some (some (.builtin "getset_descriptor.__get__")) && PySem.W.takesIn K (.builtin "object.__class__") == some true &&
  PySem.W.mroIn K D (.type "object") == some true
def exkB (l : List Str) (K : PySem.W.Frag) : Bool := l.all fun x => exC1 K (He.ga K x) && PySem.W.kitOne K (.ref (He.ga K x)) (.type "ValueError") == some true && l.all fun y => PySem.W.kitOne K (.ref (He.ga K x)) (.ref (He.ga K y)) == some (decide (x = y))
structure ExcK (l : List Str) (K : PySem.W.Frag) : Prop where
  exC : ∀ x ∈ l, ExcC K (He.ga K x)
  kitV : ∀ x ∈ l, PySem.W.kitOne K (.ref (He.ga K x)) (.type "ValueError") = some true
  kit : ∀ x ∈ l, ∀ y ∈ l, PySem.W.kitOne K (.ref (He.ga K x)) (.ref (He.ga K y)) = some (decide (x = y))
theorem exk_of {l : List Str} {K : PySem.W.Frag} (h : exkB l K = true) : ExcK l K := by
  unfold exkB at h
  rw [List.all_eq_true] at h
  refine ⟨fun x m => ?_, fun x m => ?_, fun x m y n => ?_⟩
  all_goals
    have a := h x m
    rw [Bool.and_eq_true, Bool.and_eq_true] at a
    obtain ⟨⟨a, b⟩, c⟩ := a
  · unfold exC1 at a
    simp only [Bool.and_eq_true, beq_iff_eq] at a
    obtain ⟨⟨⟨⟨⟨⟨⟨a1, a2⟩, a3⟩, a4⟩, a5⟩, a6⟩, a7⟩, a8⟩ := a
    exact ⟨a1, a2, a3, a4, a5, a6, a7, a8⟩
  · exact beq_iff_eq.mp b
  · exact beq_iff_eq.mp (List.all_eq_true.mp c y n)
theorem isD {K : PySem.W.Frag} {D : Addr} {x : Str} (h : PySem.W.kitOne K (.ref D) (.ref D) = some (decide (x = x))) : PySem.W.kitOne K (.ref D) (.ref D) = some true := by rw [h, decide_eq_true rfl]
theorem isC {K : PySem.W.Frag} {D C : Addr} {x y : Str} (h : PySem.W.kitOne K (.ref D) (.ref C) = some (decide (x = y))) (n : x ≠ y) : PySem.W.kitOne K (.ref D) (.ref C) = some false := by rw [h, decide_eq_false n]
theorem l_isEt {K : PySem.W.Frag} {D C a : Addr} {b : Bool} {H : Hp} {Q : VK} (h : PySem.W.kitOne K (.ref D) (.ref C) = some b) (q : Q (.bl b) H) : rIsE K D a [.ref a, .ref C] H Q := ⟨_, .ref C, b, rfl, fun _ r => r, h, q⟩
theorem l_isEV {K : PySem.W.Frag} {D a : Addr} {n : String} {b : Bool} {H : Hp} {Q : VK} (h : PySem.W.kitOne K (.ref D) (.type n) = some b) (q : Q (.bl b) H) : rIsE K D a [.ref a, .ty n] H Q := ⟨_, .type n, b, rfl, fun _ r => r, h, q⟩
theorem roomS {X : Cx} {k : Nat} {a : Addr} {pn : List (Addr × Obj)} (r : Room k X.A) : RoomH k (X.suite a pn).A := ⟨r.dp, r.un⟩
theorem hu64H {k : Nat} {A : Around} (r : RoomH k A) : A.units + 64 < cLine := by have := r.un; omega
theorem hu1H {k : Nat} {A : Around} (r : RoomH k A) : A.units + 1 < cLine := by have := r.un; omega
theorem hot_suite {X : Cx} {a : Addr} {oe : Obj} {cls : Value} {d : Option Addr} {pn : List (Addr × Obj)} (hz : L2N.Zn cls d oe) (hf : ∃ vs, oe.data = .fields vs) : Hot1 (X.suite a ((a, oe) :: pn)).A (a, oe) :=
  ⟨rfl, let ⟨vs, e⟩ := hf; ⟨vs, e, hz.2.2 vs e⟩⟩
section
variable {X : Cx} {k : Nat} {f : Addr} {fd : FuncData} {ps : List Str} {sp : SpE} {x : Str} {p pos : Pos} {e : Expr} {es : List Expr} {t : TA}
/-- f(err, ..) in the suite: no exception leaves f -/
def tCallE (sp : SpE) (a : Addr) (c : Value) (d : Option Addr) (t : TA) : TE := fun σ H Q => t σ H fun vs H1 => sp a c d vs H1 Q E0
theorem pe_callE {q : Addr × Obj} {c : Value} {d : Option Addr} (F : FnE X.prog X.w X.K X.mg X.base k f fd ps sp) (hr : RoomH k X.A) (hot : Hot1 X.A q) (hq : q ∈ X.pn) (hz : Zc c d q.2) (hg : Gl X x) (hm : X.mg x = some (.ref f))
    (hk : PySem.W.keepIn X.K (.ref f) = true) (hb : Binds X.K fd ps []) (ha : PA X (e :: es) t) (hdb : (x == ("__debug__" : Str)) = false := by decide) (he : starEach (e :: es) X.env = (false, eval e X.env) :: starEach es X.env := by rfl)
    (hpl : (backTo pos (starEach es X.env)).any (·.1) = false := by rfl) : PE X (.Call (.Name x p) (e :: es) [] pos) (tCallE sp q.1 c d t) := by
  constructor
  intro pins s σ H Q I h
  refine wpAny_Call_Name_kw (ld_glob I hg hm ?_ hdb)
  refine PySem.W.callWith_K (h₀ := X.base) I.ok.mod.kin hk (thn (ha.run pos pins s σ H _ I h) fun us s1 hh => ?_) he hpl
  obtain ⟨vs, H1, I1, r, hs⟩ := hh
  refine ⟨I1.kIn, ?_⟩
  have hl : us.length = ps.length := by rw [← r.length]; exact F.len _ _ _ _ _ _ _ hs
  have b := hb s1 us I1.kIn (by rw [List.append_nil]; exact hl)
  rw [List.append_nil] at b
  have P1 := I1.pin q (List.mem_append_left _ hq)
  have hpin : PinOk X.stack H1 s1 q := ⟨P1.1, P1.2.1, fun hm => (List.mem_cons.mp (I1.stkSub q.1 hm)).elim P1.2.2.1 P1.2.2.2.1, P1.2.2.2.2⟩
  refine wpAny_call (codeAny_mono (F.run X.A X.stack s1 H1 ⟨us, []⟩ us vs Q E0 q c d hr hot hpin hz I1.env0 b r hs) fun res s' hq => ?_)
  match res, hq with
  | .error e, hq => exact hq.elim
  | .ok (.ret u), hq => exact I1.after hq

/-- in the suite of a try -/
theorem pe_callES {a : Addr} {oe : Obj} {cls : Value} {d : Option Addr} {pn : List (Addr × Obj)} (F : FnE X.prog X.w X.K X.mg X.base k f fd ps sp) (hr : Room k X.A) (hz : L2N.Zn cls d oe) (hf : ∃ vs, oe.data = .fields vs) (hg : Gl X x) (hm : X.mg x = some (.ref f))
    (hk : PySem.W.keepIn X.K (.ref f) = true) (hb : Binds X.K fd ps []) (ha : PA (X.suite a ((a, oe) :: pn)) (e :: es) t) (hdb : (x == ("__debug__" : Str)) = false := by decide) (he : starEach (e :: es) (X.suite a ((a, oe) :: pn)).env = (false, eval e (X.suite a ((a, oe) :: pn)).env) :: starEach es (X.suite a ((a, oe) :: pn)).env := by rfl)
    (hpl : (backTo pos (starEach es (X.suite a ((a, oe) :: pn)).env)).any (·.1) = false := by rfl) : PE (X.suite a ((a, oe) :: pn)) (.Call (.Name x p) (e :: es) [] pos) (tCallE sp a cls d t) :=
  pe_callE (X := X.suite a ((a, oe) :: pn)) (q := (a, oe)) (c := cls) (d := d) F (roomS hr) (hot_suite hz hf) List.mem_cons_self hz.zc hg hm hk hb ha hdb he hpl
/-- isinstance(err, C), err the exception that a context bears -/
theorem call_isP {q : Addr × Obj} {D : Addr} (hq : q ∈ X.pn) (C : ExcC X.K D) (hz : Zc (.ref D) none q.2) (hf : ∃ vs, q.2.data = .fields vs) : CallR X (.builtin "isinstance") (rIsE X.K D q.1) := by
  intro pins s σ H xs us Q I r h
  obtain ⟨c, cv, b, rfl, hcv, e, z⟩ := h
  match us, r with
  | [u1, u2], .cons rx (.cons rt .nil) =>
    cases rx
    have ec := hcv _ rt
    subst ec
    have hget := (I.pin q (List.mem_append_left _ hq)).1
    obtain ⟨a, oe⟩ := q
    obtain ⟨vs, hv⟩ := hf
    have J : PySem.W.InstAt s.heap a oe D none := by
      obtain ⟨oc, od, oda, osl⟩ := oe
      obtain ⟨h1, h2⟩ := hz
      dsimp only at h1 h2 hv
      subst h1 h2 hv
      exact ⟨hget, rfl, rfl, trivial⟩
    exact PySem.W.kia_one (PySem.W.handS_kitx_exc C.hg C.hk C.hs C.hd C.ha C.hn C.ht C.hm) I.kIn J e (fun y => nomatch y) fun tk => ⟨.bl b, H, I.kept (t' := tk) fun _ _ y => y, rfl, z⟩
end

/-! ### a for over a list that is left before its end, where an exception is handled -/
structure TurnN (P : Program) (w : World) (K : PySem.W.Frag) (tg : Expr) (J : It) (fp : List Addr) (it : Addr) (tn : Nat → Heap → Prop) : Prop where
  mem : it ∈ fp
  obj : ∀ i h, tn i h → ∀ b ∈ fp, ∃ o, h.get? b = some o ∧ ∀ v, o.data ≠ .cell v
  keep : ∀ i h h', tn i h → (∀ b ∈ fp, ∀ o, h.get? b = some o → h'.get? b = some o) → tn i h'
  item : ∀ (X : Cx), X.prog = P → X.w = w → X.K = K → ∀ (i : Nat) (pins : List (Addr × Obj)) (s : Shared) (σ : St) (H : Hp) (E : Value → Shared → Prop), Inv X pins σ H s → (∀ b ∈ fp, FpOk X pins H b) → tn i s.heap → J.go i H →
    wpAny (model P w) X.A (pyNext (.ref it)) (fun r s1 => ∃ u, r = some u ∧
      wpAny (model P w) X.A (letOwnedTupleGo tg (.ref it) u) (fun _ s2 => ∃ x H', Inv X pins σ H' s2 ∧ RelV x u ∧ J.yld i H x H' ∧ tn (i + 1) s2.heap ∧ ∀ b ∈ fp, H' b = none) E s1) E s
theorem turnN_list {P : Program} {w : World} {K : PySem.W.Frag} {tg : Expr} (a it : Addr) : TurnN P w K tg (Itl K a) [it] it (fun i h => h.IsListIter it a i) where
  mem := List.mem_singleton.mpr rfl
  obj := (turn_list (P := P) (w := w) (K := K) (tg := tg) a it).obj
  keep := (turn_list (P := P) (w := w) (K := K) (tg := tg) a it).keep
  item := by
    rintro X rfl rfl rfl i pins s σ H E I hf st ⟨xs, x, hq, hx⟩
    obtain ⟨its, rv, p, hz⟩ := I.list hq
    obtain ⟨u, hu, ru⟩ := rv.get hx
    obtain ⟨f0, f1, f2, f3, f4, f5⟩ := hf it (List.mem_singleton.mpr rfl)
    refine wpAny_pyNext_list_item st p.isList (x := u) (by simpa using hu) fun h' st' sb => ?_
    have I1 : Inv X pins σ H { s with heap := h' } := I.turned (t' := s.toks) (fun b o hb e => (sb.2 b hb).trans e) f0 f1 f3 f4 f5
    obtain ⟨o, e, c, d⟩ := id st'
    refine ⟨u, rfl, go_of (s := { s with heap := h' }) e c d (by decide) ?_⟩
    exact ⟨x, H, I1, ru, ⟨rfl, fun ys hy => by rw [I.list_inj hy hq]; exact hx⟩, st', fun b hb => (hf b hb).1⟩
def PIEN (X : Cx) (pins : List (Addr × Obj)) (σ : St) (tg : Expr) (R : It → Hp → Prop) (itv : Value) (s2 : Shared) : Prop :=
  ∃ (it : Addr) (fp : List Addr) (tn : Nat → Heap → Prop) (J : It) (H' : Hp), itv = .ref it ∧ Inv X pins σ H' s2 ∧ TurnN X.prog X.w X.K tg J fp it tn ∧ tn 0 s2.heap ∧ (∀ b ∈ fp, FpOk X pins H' b) ∧ R J H'
structure PIN (X : Cx) (tg iter : Expr) (wi : TI) : Prop where
  run : ∀ (pins : List (Addr × Obj)) (s : Shared) (σ : St) (H : Hp) (R : It → Hp → Prop), Inv X pins σ H s → wi σ H R →
    wpAny (model X.prog X.w) X.A (eval iter X.env) (fun v s1 => wpAny (model X.prog X.w) X.A (pyIter v) (PIEN X pins σ tg R) X.xe s1) X.xe s
section
variable {X : Cx} {tg : Expr}
theorem pi_listN {l : Expr} {tl : TE} (hl : PE X l tl) : PIN X tg l (iList X.K tl) := by
  constructor
  intro pins s σ H R I h
  refine thn (hl.run pins s σ H _ I h) fun v s1 hh => ?_
  obtain ⟨x, H1, I1, r1, a, e, ⟨xs, hq⟩, q⟩ := hh
  subst e
  cases r1
  obtain ⟨its, rv, p, hz⟩ := I1.list hq
  refine wpAny_pyIter_list p.isList ?_
  refine ⟨s1.heap.objs.size, [s1.heap.objs.size], _, _, H1, rfl, I1.kept (t' := s1.toks) fun b o e => Heap.get?_push_of_some _ e, turnN_list a _, ⟨_, Heap.get?_push_size _ rfl, rfl, rfl⟩, fun b hb => ?_, q⟩
  obtain rfl : b = s1.heap.objs.size := by simpa using hb
  exact I1.fpOk (Nat.le_refl _) (I1.hok.fresh (Nat.le_refl _))
theorem pi_listNS {l : Expr} {tl : TE} {a : Addr} {pn : List (Addr × Obj)} (hl : PE (X.suite a pn) l tl) : PIN (X.suite a pn) tg l (iList X.K tl) := pi_listN (X := X.suite a pn) hl
/-- the loop never comes to its end -/
def tForN (wi : TI) (g : TG) (tb : TS) : TS := fun D σ H => wi σ H fun J H1 => ∃ W : Nat → Nat → St → Hp → Prop, (∃ m, W 0 m σ H1) ∧ ∀ i m σ H, W i m σ H →
  J.go i H ∧ ∃ N : St → Hp → Prop, (∀ σ' H', N σ' H' → ∃ m', m' < m ∧ W (i + 1) m' σ' H') ∧ ∀ x H', J.yld i H x H' → g x σ H' fun σ2 H2 => tb { D with nx := N, ct := N, bk := D.nx } σ2 H2
theorem ps_forN {iter : Expr} {body : List Stmt} {wi : TI} {g : TG} {tb : TS} {pos : Pos} (hp : PassesOwn (model X.prog X.w) X.A X.env X.xe) (hi : PIN X tg iter wi) (hg : PG X tg g) (hb : PSs X body tb)
    (hs : ∀ x, foldedSetIterable iter X.env x = pure x := by intro _; rfl) : PS X (.For tg iter body [] pos) (tForN wi g tb) := by
  constructor
  intro pins s σ H D I h
  refine wpAny_For (thn (hi.run pins s σ H _ I h) fun v s1 h1 => thn h1 fun itv s2 h2 => ?_) hs
  obtain ⟨it, fp, tn, J, H2, e, I2, T, st2, f2, W, ⟨m0, w0⟩, turn⟩ := h2
  subst e
  have stat : ∀ {H' : Hp}, (∀ b ∈ fp, H' b = none) → ∀ b ∈ fp, FpOk X pins H' b := fun hn b hb => ⟨hn b hb, (f2 b hb).2⟩
  refine codeAny_forLoop_any (fun n s' => ∃ i σ' H', Inv X pins σ' H' s' ∧ tn i s'.heap ∧ (∀ b ∈ fp, H' b = none) ∧ W i n σ' H') ?_ m0 ⟨0, σ, H2, I2, st2, fun b hb => (f2 b hb).1, w0⟩
  rintro n s3 ⟨i, σ3, H3, I3, st3, fr3, w3⟩
  obtain ⟨go, N, hN, step⟩ := turn i n σ3 H3 w3
  refine wpAny_passesOwn hp (thn (T.item X rfl rfl rfl i pins s3 σ3 H3 X.xe I3 (stat fr3) st3 go) fun r s4 h4 => ?_)
  obtain ⟨u, hr, h4⟩ := h4
  subst hr
  refine wpAny_passesOwn hp (thn h4 fun _ s5 h5 => ?_)
  obtain ⟨x, H5, I5, r5, y5, st5, fr5⟩ := h5
  have I5' := I5.pinned (stat fr5) (T.obj _ _ st5)
  refine wpAny_passesOwn hp (thn (hg.run _ s5 σ3 H5 x u _ I5' r5 (step x H5 y5)) fun _ s6 h6 => ?_)
  obtain ⟨σ6, H6, I6, q6⟩ := h6
  refine wpAny_passesOwn hp (thn (hb.run _ s6 σ6 H6 _ I6 q6) fun f s7 q7 => ?_)
  have again : ∀ {σ7 : St} {H7 : Hp}, Inv X (pins ++ pinsAt fp s5.heap) σ7 H7 s7 → N σ7 H7 → ∃ m, m < n ∧ ∃ i σ' H', Inv X pins σ' H' s7 ∧ tn i s7.heap ∧ (∀ b ∈ fp, H' b = none) ∧ W i m σ' H' := by
    intro σ7 H7 I7 n7
    obtain ⟨m', hm, w7⟩ := hN σ7 H7 n7
    refine ⟨m', hm, i + 1, σ7, H7, I7.unpinned, T.keep _ _ _ st5 fun b hb o e => ?_, fun b hb => ?_, w7⟩
    · exact (I7.pin (b, o) (List.mem_append_right _ (List.mem_append_right _ (mem_pinsAt hb e)))).1
    · obtain ⟨o, e, d⟩ := T.obj _ _ st5 b hb
      exact (I7.pin (b, o) (List.mem_append_right _ (List.mem_append_right _ (mem_pinsAt hb e)))).2.1
  match f, q7 with
  | .next, q7 => obtain ⟨σ7, H7, I7, n7⟩ := q7; exact again I7 n7
  | .cont, q7 => obtain ⟨σ7, H7, I7, n7⟩ := q7; exact again I7 n7
  | .brk, q7 => obtain ⟨σ7, H7, I7, q7⟩ := q7; exact ⟨σ7, H7, I7.unpinned, q7⟩
  | .ret v, q7 => obtain ⟨x7, σ7, H7, I7, r7, q7⟩ := q7; exact ⟨x7, σ7, H7, I7.unpinned, r7, q7⟩
/-- over a list that stays; P: what holds ahead of turn i; at turn n the loop is left at the latest -/
theorem forN_list {K : PySem.W.Frag} {a : Addr} {xs : List V} {g : TG} {tb : TS} {D : Ends} {σ : St} {H : Hp} (Pv : Nat → St → Hp → Prop) (h0 : Pv 0 σ H) (hl : ∀ i σ H, Pv i σ H → SqL K H a xs) (hn : ∀ i σ H, Pv i σ H → i < xs.length)
    (hs : ∀ i x σ H, xs[i]? = some x → Pv i σ H → g x σ H fun σ2 H2 => tb { D with nx := Pv (i + 1), ct := Pv (i + 1), bk := D.nx } σ2 H2) :
    ∃ W : Nat → Nat → St → Hp → Prop, (∃ m, W 0 m σ H) ∧ ∀ i m σ H, W i m σ H →
      (Itl K a).go i H ∧ ∃ N : St → Hp → Prop, (∀ σ' H', N σ' H' → ∃ m', m' < m ∧ W (i + 1) m' σ' H') ∧ ∀ x H', (Itl K a).yld i H x H' → g x σ H' fun σ2 H2 => tb { D with nx := N, ct := N, bk := D.nx } σ2 H2 := by
  refine ⟨fun i m σ H => m = xs.length - i ∧ Pv i σ H, ⟨xs.length, by simp, h0⟩, ?_⟩
  rintro i m σ H ⟨rfl, p⟩
  have q := hl i σ H p
  have hlt := hn i σ H p
  refine ⟨⟨xs, xs[i], q, by simp [hlt]⟩, Pv (i + 1), fun σ' H' p' => ⟨xs.length - (i + 1), by omega, rfl, p'⟩, fun x H' y => ?_⟩
  obtain ⟨e, y⟩ := y
  subst e
  exact hs i x σ _ (y xs q) p
end
end LW

set_option maxHeartbeats 4000000
namespace LW
open PySem PySem.Spec PyProof.Rows L2

/-! ### the heap: what is kept but at F (tuples always are) -/
structure Ext (F : List Addr) (H H' : Hp) : Prop where
  keep : ∀ a o, H a = some o → a ∉ F → H' a = some o
  tups : ∀ a xs, H a = some (.tup xs) → H' a = some (.tup xs)
theorem Ext.refl (F : List Addr) (H : Hp) : Ext F H H := ⟨fun _ _ h _ => h, fun _ _ h => h⟩
theorem Ext.trans {F : List Addr} {H H1 H2 : Hp} (a : Ext F H H1) (b : Ext F H1 H2) : Ext F H H2 :=
  ⟨fun c o h n => b.keep c o (a.keep c o h n) n, fun c xs h => b.tups c xs (a.tups c xs h)⟩
theorem Ext.mono {F G : List Addr} {H H' : Hp} (e : Ext F H H') (h : ∀ a ∈ F, a ∈ G ∨ H a = none) : Ext G H H' :=
  ⟨fun a o q n => e.keep a o q fun z => (h a z).elim n fun y => (by rw [y] at q; cases q), e.tups⟩
theorem Ext.sub {F G : List Addr} {H H' : Hp} (e : Ext F H H') (h : ∀ a ∈ F, a ∈ G) : Ext G H H' := e.mono fun a z => .inl (h a z)
/-- one after another, the second's footprint within the first's and what was new -/
theorem Ext.then {F G : List Addr} {H H1 H2 : Hp} (a : Ext F H H1) (b : Ext G H1 H2) (h : ∀ c ∈ G, c ∈ F ∨ H c = none) : Ext F H H2 :=
  ⟨fun c o q n => b.keep c o (a.keep c o q n) fun z => (h c z).elim n fun y => (by rw [y] at q; cases q), fun c xs q => b.tups c xs (a.tups c xs q)⟩
theorem Ext.new {F : List Addr} {H : Hp} {p : Addr} {o : HO} (h : H p = none) : Ext F H (upd H p o) :=
  ⟨fun a u e _ => (by rw [upd_ne (ne_of_none e h)]; exact e), fun a u e => (by rw [upd_ne (ne_of_none e h)]; exact e)⟩
theorem Ext.write {F : List Addr} {H : Hp} {p : Addr} {o u : HO} (h : H p = some u) (m : ∀ xs, u ≠ .tup xs) (hp : p ∈ F) : Ext F H (upd H p o) :=
  ⟨fun a v e n => (by rw [upd_ne (fun z => n (by rw [z]; exact hp))]; exact e), fun a xs e => (by rw [upd_ne (ne_of e h fun z => m xs z.symm)]; exact e)⟩
theorem Ext.free {F : List Addr} {H H' : Hp} {p : Addr} (e : Ext F H H') (h : H' p = none) (n : p ∉ F) : H p = none := by
  cases q : H p with
  | none => rfl
  | some o =>
    rw [e.keep p o q n] at h
    cases h
theorem Ext.same {H H' : Hp} (e : Ext [] H H') : Same H H' := fun a o h => e.keep a o h (by simp)
theorem Same.ext {F : List Addr} {H H' : Hp} (e : Same H H') : Ext F H H' := ⟨fun a o h _ => e a o h, fun a xs h => e a _ h⟩
theorem Ext.seqL {F : List Addr} {K : PySem.W.Frag} {H H' : Hp} {a : Addr} {xs : List V} (e : Ext F H H') (n : a ∉ F) (h : SqL K H a xs) : SqL K H' a xs := by
  rcases h with (h | ⟨o, h⟩) | h
  · exact .inl (.inl (e.keep _ _ h n))
  · exact .inl (.inr ⟨o, e.keep _ _ h n⟩)
  · exact .inr h
theorem Ext.wr {F : List Addr} {H H1 : Hp} {p : Addr} {o u : HO} (e : Ext F H H1) (h : H1 p = some u) (m : ∀ xs, u ≠ .tup xs) (hp : p ∈ F) : Ext F H (upd H1 p o) := e.trans (Ext.write h m hp)
/-- an object that was new is written -/
theorem Ext.wrN {F : List Addr} {H H1 : Hp} {p : Addr} {o u : HO} (e : Ext F H H1) (h : H1 p = some u) (m : ∀ xs, u ≠ .tup xs) (n : H p = none) : Ext F H (upd H1 p o) :=
  ⟨fun a v q z => (by rw [upd_ne (ne_of_none q n)]; exact e.keep a v q z), fun a xs q => (by rw [upd_ne (ne_of_none q n)]; exact e.tups a xs q)⟩
theorem Ext.add {F : List Addr} {H H1 H2 : Hp} (e : Ext F H H1) (a : Ext [] H1 H2) : Ext F H H2 := e.then a (fun _ h => by cases h)
/-- what is owned grows by new addresses alone -/
def Grow (H : Hp) (F F' : List Addr) : Prop := ∀ a ∈ F', a ∈ F ∨ H a = none
theorem Grow.refl (H : Hp) (F : List Addr) : Grow H F F := fun _ h => .inl h
theorem Grow.trans {H H1 : Hp} {F F1 F2 : List Addr} (a : Grow H F F1) (e : Ext F H H1) (b : Grow H1 F1 F2) : Grow H F F2 := fun c h => by
  rcases b c h with z | z
  · exact a c z
  · by_cases q : c ∈ F
    · exact .inl q
    · exact .inr (e.free z q)
def Live (H : Hp) (F : List Addr) : Prop := ∀ a ∈ F, H a ≠ none
def Apart (F G : List Addr) : Prop := ∀ a ∈ F, a ∉ G
theorem Apart.symm {F G : List Addr} (h : Apart F G) : Apart G F := fun a m n => h a n m
theorem Apart.grow {H : Hp} {F F' G : List Addr} (h : Apart F G) (g : Grow H F F') (l : Live H G) : Apart F' G := fun a m n => (g a m).elim (fun z => h a z n) fun z => l a n z
theorem Live.ext {F G : List Addr} {H H' : Hp} (l : Live H G) (e : Ext F H H') (h : Apart G F) : Live H' G := fun a m z => by
  cases q : H a with
  | none => exact l a m q
  | some o =>
    rw [e.keep a o q (h a m)] at z
    cases z

/-- a body under way: H0 its base, F what it may change of it -/
structure Run (F : List Addr) (H0 H : Hp) : Prop where
  ext : Ext F H0 H
  live : Live H F
theorem Run.start {F : List Addr} {H : Hp} (l : Live H F) : Run F H H := ⟨Ext.refl F H, l⟩
theorem Run.wr {F : List Addr} {H0 H : Hp} {a : Addr} {o u : HO} (r : Run F H0 H) (h : H a = some u) (m : ∀ xs, u ≠ .tup xs) (w : a ∈ F ∨ H0 a = none) : Run F H0 (upd H a o) := by
  refine ⟨w.elim (fun z => r.ext.wr h m z) fun z => r.ext.wrN h m z, fun b hb z => ?_⟩
  by_cases e : b = a
  · rw [e, upd_same] at z; cases z
  · rw [upd_ne e] at z; exact r.live b hb z
theorem Run.new {F : List Addr} {H0 H : Hp} {p : Addr} {o : HO} (r : Run F H0 H) (h : H p = none) : Run F H0 (upd H p o) ∧ H0 p = none ∧ p ∉ F := by
  have n : p ∉ F := fun z => r.live p z h
  refine ⟨⟨r.ext.add (Ext.new h), fun b hb z => ?_⟩, r.ext.free h n, n⟩
  have e : b ≠ p := fun y => n (y ▸ hb)
  rw [upd_ne e] at z
  exact r.live b hb z
/-- behind a call with the footprint G -/
theorem Run.call {F G : List Addr} {H0 H H' : Hp} (r : Run F H0 H) (e : Ext G H H') (g : ∀ a ∈ G, a ∈ F ∨ H0 a = none) (l : ∀ a ∈ F, a ∈ G → H' a ≠ none) : Run F H0 H' :=
  ⟨r.ext.then e g, fun a m z => by
    by_cases q : a ∈ G
    · exact l a m q z
    · cases y : H a with
      | none => exact r.live a m y
      | some o => rw [e.keep a o y q] at z; cases z⟩
theorem Run.same {F : List Addr} {H0 H H' : Hp} (r : Run F H0 H) (e : Ext [] H H') : Run F H0 H' := r.call (G := []) e (fun _ h => by cases h) fun _ _ h => by cases h
theorem Live.cons {H : Hp} {a : Addr} {o : HO} {F : List Addr} (h : H a = some o) (l : Live H F) : Live H (a :: F) := fun b m z => by
  rcases List.mem_cons.mp m with e | e
  · rw [e, h] at z; cases z
  · exact l b e z
theorem Live.nil {H : Hp} : Live H [] := fun _ m => by cases m

/-! ### forms of one's own: fields -/
/-- e.f, e an instance of the class at C -/
def tFldC (C : Addr) (f : Str) (ta : TE) : TE := fun σ H Q => ta σ H fun x H1 => ∃ a dx fs v, x = .ref a ∧ H1 a = some (.ins C dx fs) ∧ fs.lookup f = some v ∧ Q v H1
def sFldC (C : Addr) (f : Str) (ta tv : TE) : TS := fun D σ H => tv σ H fun y H1 => ta σ H1 fun x H2 => ∃ a dx fs, x = .ref a ∧ H2 a = some (.ins C dx fs) ∧ fs.length < 1000 ∧ D.nx σ (upd H2 a (.ins C dx (putF f y fs)))
section
variable {X : Cx} {o e value : Expr} {f : Str} {C : Addr} {pos pos' : Pos} {ta tv : TE}
theorem pe_fldC (c : Cls X.K C) (n : NoAttr X.K C f) (he : PE X e ta) (hb : attributeBase e f X.env (eval e X.env) = eval e X.env := by rfl) : PE X (.Attribute e f pos) (tFldC C f ta) := by
  constructor
  intro pins s σ H Q I h
  refine attr_of hb (thn (he.run pins s σ H _ I h) fun u s1 hh => ?_)
  obtain ⟨x, H1, I1, rx, a, dx, fs, v, ex, ea, l, q⟩ := hh
  subst ex
  obtain rfl : u = Value.ref a := rx
  exact getattr_ok I1 ea c n l fun u' s2 I2 ru => ⟨v, H1, I2, ru, q⟩
theorem ps_fldC (c : Cls X.K C) (n : NoAttr X.K C f) (ha : PE X o ta) (hv : PE X value tv) (hs : swapsWith value (some (.Attribute o f pos')) pos.line X.env = pure false := by rfl) :
    PS X (.Assign [.Attribute o f pos'] value pos) (sFldC C f ta tv) := by
  constructor
  intro pins s σ H D I h
  refine plainObj_wpAny_Assign_Attribute (thn (hv.run pins s σ H _ I h) fun u s1 hh => ?_) hs
  obtain ⟨y, H1, I1, ry, q⟩ := hh
  refine thn (ha.run pins s1 σ H1 _ I1 q) fun ov s2 h2 => ?_
  obtain ⟨x, H2, I2, rx, a, dx, fs, ex, ea, l, q2⟩ := h2
  subst ex
  obtain rfl : ov = Value.ref a := rx
  exact setattr_ok I2 ea c n l ry fun s3 I3 => ⟨σ, _, I3, q2⟩
end

/-! ### operators by names -/
def rIadd : R2 := rI0 fun i j => .int (i + j)
def rIsub : R2 := rI0 fun i j => .int (i - j)
def rImul : R2 := rI CMul fun i j => .int (i * j)
def rImod : R2 := rI (fun _ j => 0 < j) fun i j => .int (i % j)
def rIdiv : R2 := rI CDiv fun i j => .int (i / j)
def rIpow : R2 := rI CPow fun i j => .int (i ^ j.toNat)
def rIlt : R2 := rI0 fun i j => .bl (decide (i < j))
def rIle : R2 := rI0 fun i j => .bl (decide (i ≤ j))
def rIgt : R2 := rI0 fun i j => .bl (decide (j < i))
def rIge : R2 := rI0 fun i j => .bl (decide (j ≤ i))
def rIeq : R2 := rI0 fun i j => .bl (decide (i = j))
def rIne : R2 := rI0 fun i j => .bl (!decide (i = j))
def rSeq : R2 := fun x y H Q => ∃ a b, x = .str a ∧ y = .str b ∧ Q (.bl (decide (a = b))) H
def rSne : R2 := fun x y H Q => ∃ a b, x = .str a ∧ y = .str b ∧ Q (.bl (!decide (a = b))) H
def rSadd : R2 := fun x y H Q => ∃ i j, x = .str i ∧ y = .str j ∧ i.length + j.length ≤ sizeLine ∧ Q (.str (i ++ j)) H
def rNis : R2 := fun x y H Q => y = .non ∧ Q (.bl (decide (x = .non))) H
def rNno : R2 := fun x y H Q => y = .non ∧ Q (.bl (!decide (x = .non))) H
def rBne : R2 := fun x y H Q => ∃ a b, x = .bl a ∧ y = .bl b ∧ Q (.bl (!decide (a = b))) H
section
variable {X : Cx}
theorem oIadd : OpR X (binaryOp .Add) rIadd := op_add
theorem oIsub : OpR X (binaryOp .Sub) rIsub := op_sub
theorem oImul : OpR X (binaryOp .Mult) rImul := op_mul
theorem oImod : OpR X (binaryOp .Mod) rImod := op_mod
theorem oIdiv : OpR X (binaryOp .FloorDiv) rIdiv := op_fdiv
theorem oIpow : OpR X (binaryOp .Pow) rIpow := op_pow
theorem oIlt : OpR X (compareOp .Lt) rIlt := op_lt
theorem oIle : OpR X (compareOp .LtE) rIle := op_le
theorem oIgt : OpR X (compareOp .Gt) rIgt := op_gt
theorem oIge : OpR X (compareOp .GtE) rIge := op_ge
theorem oSadd : OpR X (binaryOp .Add) rSadd := op_add_str
theorem oNis : OpR X (compareOp .Is) rNis := op_isN
theorem oNno : OpR X (compareOp .IsNot) rNno := op_notN
theorem dint (i j : Int) : decide (V.int i = V.int j) = decide (i = j) := by simp
theorem dstr (i j : Str) : decide (V.str i = V.str j) = decide (i = j) := by simp
theorem dbl (i j : Bool) : decide (V.bl i = V.bl j) = decide (i = j) := by simp
theorem oIeq : OpR X (compareOp .Eq) rIeq := fun pins s σ H x y v u Q I rx ry ⟨i, j, ex, ey, q⟩ => op_eq pins s σ H x y v u Q I rx ry (by subst ex; subst ey; exact ⟨rfl, by rw [dint]; exact q⟩)
theorem oIne : OpR X (compareOp .NotEq) rIne := fun pins s σ H x y v u Q I rx ry ⟨i, j, ex, ey, q⟩ => op_ne pins s σ H x y v u Q I rx ry (by subst ex; subst ey; exact ⟨rfl, by rw [dint]; exact q⟩)
theorem oSeq : OpR X (compareOp .Eq) rSeq := fun pins s σ H x y v u Q I rx ry ⟨i, j, ex, ey, q⟩ => op_eq pins s σ H x y v u Q I rx ry (by subst ex; subst ey; exact ⟨rfl, by rw [dstr]; exact q⟩)
theorem oSne : OpR X (compareOp .NotEq) rSne := fun pins s σ H x y v u Q I rx ry ⟨i, j, ex, ey, q⟩ => op_ne pins s σ H x y v u Q I rx ry (by subst ex; subst ey; exact ⟨rfl, by rw [dstr]; exact q⟩)
theorem oBne : OpR X (compareOp .NotEq) rBne := fun pins s σ H x y v u Q I rx ry ⟨i, j, ex, ey, q⟩ => op_ne pins s σ H x y v u Q I rx ry (by subst ex; subst ey; exact ⟨rfl, by rw [dbl]; exact q⟩)
end

/-! ### steps of a reading -/
section
variable {K : PySem.W.Frag} {nx bk ct : St → Hp → Prop} {rt : VK} {σ : St} {H : Hp} {Q : VK} {t u : TS} {ta tb te tv td ty : TE} {tt tu : TT} {R : Bool → Hp → Prop} {i : Nat} {v x y : V} {r : R2} {ra : List V → Hp → VK → Prop} {as : TA}
  {S : List V → Hp → Prop} {C p : Addr} {f m : Str} {o : HO}
theorem k_seq (h : t ⟨u ⟨nx, rt, bk, ct⟩, rt, bk, ct⟩ σ H) : tSeq t u ⟨nx, rt, bk, ct⟩ σ H := h
theorem k_next (h : nx σ H) : tNext ⟨nx, rt, bk, ct⟩ σ H := h
theorem k_asg (h : te σ H fun v H1 => nx (σ.set i (some v)) H1) : tAsg te (gName i) ⟨nx, rt, bk, ct⟩ σ H := h
theorem k_ret (h : te σ H rt) : tRet te ⟨nx, rt, bk, ct⟩ σ H := h
theorem k_retN (h : rt .non H) : tRetN ⟨nx, rt, bk, ct⟩ σ H := h
theorem k_drop (h : te σ H fun _ H1 => nx σ H1) : tDrop te ⟨nx, rt, bk, ct⟩ σ H := h
theorem k_ifS (h : tt σ H fun b H1 => if b = true then t ⟨nx, rt, bk, ct⟩ σ H1 else u ⟨nx, rt, bk, ct⟩ σ H1) : tIfS tt t u ⟨nx, rt, bk, ct⟩ σ H := h
theorem k_var (h : σ[i]? = some (some v)) (q : Q v H) : tVar i σ H Q := ⟨v, h, q⟩
theorem k_c (q : Q v H) : tC v σ H Q := q
theorem k_op (h : ta σ H fun x H1 => tb σ H1 fun y H2 => r x y H2 Q) : tOp r ta tb σ H Q := h
def LNeg (x : V) (H : Hp) (Q : VK) : Prop := ∃ i, x = .int i ∧ Q (.int (-i)) H
theorem l_neg {i : Int} (q : Q (.int (-i)) H) : LNeg (.int i) H Q := ⟨i, rfl, q⟩
theorem k_neg (h : ta σ H fun x H1 => LNeg x H1 Q) : tUn (rU fun i => .int (-i)) ta σ H Q := h
theorem k_negc {i : Int} (q : Q (.int (-i)) H) : tUn (rU fun i => .int (-i)) (tC (.int i)) σ H Q := ⟨i, rfl, q⟩
theorem k_cb (h : as σ H fun vs H1 => ra vs H1 Q) : tCB ra as σ H Q := h
theorem k_nil (h : S [] H) : tNil σ H S := h
theorem k_cons {ar : TA} (h : te σ H fun x H1 => ar σ H1 fun xs H2 => S (x :: xs) H2) : tCons te ar σ H S := h
theorem k_test (h : te σ H fun x H1 => ∃ k, x = .bl k ∧ R k H1) : tTest te σ H R := h
theorem k_B (h : te σ H fun x H1 => ∃ k, x = .bl k ∧ R k H1) : tB te σ H R := h
theorem k_not (h : tt σ H fun c H1 => R (!c) H1) : tNot tt σ H R := h
theorem k_and (h : tt σ H fun c H1 => if c = true then tu σ H1 R else R false H1) : tAnd tt tu σ H R := h
theorem k_or (h : tt σ H fun c H1 => if c = true then R true H1 else tu σ H1 R) : tOr tt tu σ H R := h
theorem k_notV (h : ta σ H fun x H1 => ∃ c, x = .bl c ∧ Q (.bl (!c)) H1) : tNotV ta σ H Q := h
theorem k_andV (h : ta σ H fun x H1 => ∃ c, x = .bl c ∧ if c = true then tb σ H1 Q else Q (.bl false) H1) : tAndV ta tb σ H Q := h
theorem k_orV (h : ta σ H fun x H1 => ∃ c, x = .bl c ∧ if c = true then Q (.bl true) H1 else tb σ H1 Q) : tOrV ta tb σ H Q := h
theorem k_bl {b : Bool} {P : Bool → Prop} (h : P b) : ∃ c, V.bl b = V.bl c ∧ P c := ⟨b, rfl, h⟩
-- values
theorem k_add {i j : Int} (q : Q (.int (i + j)) H) : rIadd (.int i) (.int j) H Q := ⟨i, j, rfl, rfl, q⟩
theorem k_sub {i j : Int} (q : Q (.int (i - j)) H) : rIsub (.int i) (.int j) H Q := ⟨i, j, rfl, rfl, q⟩
theorem k_mul {i j : Int} (h : CMul i j) (q : Q (.int (i * j)) H) : rImul (.int i) (.int j) H Q := ⟨i, j, rfl, rfl, h, q⟩
theorem k_mod {i j : Int} (h : 0 < j) (q : Q (.int (i % j)) H) : rImod (.int i) (.int j) H Q := ⟨i, j, rfl, rfl, h, q⟩
theorem k_div {i j : Int} (h : CDiv i j) (q : Q (.int (i / j)) H) : rIdiv (.int i) (.int j) H Q := ⟨i, j, rfl, rfl, h, q⟩
theorem k_pow {i j : Int} (h : CPow i j) (q : Q (.int (i ^ j.toNat)) H) : rIpow (.int i) (.int j) H Q := ⟨i, j, rfl, rfl, h, q⟩
theorem k_p6 (q : Q (.int 1000000) H) : rIpow (.int 10) (.int 6) H Q := ⟨10, 6, rfl, rfl, ⟨by decide, by decide, by decide⟩, q⟩
theorem k_p9 (q : Q (.int 1000000000) H) : rIpow (.int 10) (.int 9) H Q := ⟨10, 9, rfl, rfl, ⟨by decide, by decide, by decide⟩, q⟩
theorem k_p12 (q : Q (.int 1000000000000) H) : rIpow (.int 10) (.int 12) H Q := ⟨10, 12, rfl, rfl, ⟨by decide, by decide, by decide⟩, q⟩
theorem k_p13 (q : Q (.int 10000000000000) H) : rIpow (.int 10) (.int 13) H Q := ⟨10, 13, rfl, rfl, ⟨by decide, by decide, by decide⟩, q⟩
theorem k_p18 (q : Q (.int 1000000000000000000) H) : rIpow (.int 10) (.int 18) H Q := ⟨10, 18, rfl, rfl, ⟨by decide, by decide, by decide⟩, q⟩
theorem k_p30 (q : Q (.int 1000000000000000000000000000000) H) : rIpow (.int 10) (.int 30) H Q := ⟨10, 30, rfl, rfl, ⟨by decide, by decide, by decide⟩, q⟩
theorem k_lt {i j : Int} (q : Q (.bl (decide (i < j))) H) : rIlt (.int i) (.int j) H Q := ⟨i, j, rfl, rfl, q⟩
theorem k_le {i j : Int} (q : Q (.bl (decide (i ≤ j))) H) : rIle (.int i) (.int j) H Q := ⟨i, j, rfl, rfl, q⟩
theorem k_gt {i j : Int} (q : Q (.bl (decide (j < i))) H) : rIgt (.int i) (.int j) H Q := ⟨i, j, rfl, rfl, q⟩
theorem k_ge {i j : Int} (q : Q (.bl (decide (j ≤ i))) H) : rIge (.int i) (.int j) H Q := ⟨i, j, rfl, rfl, q⟩
theorem k_eq {i j : Int} (q : Q (.bl (decide (i = j))) H) : rIeq (.int i) (.int j) H Q := ⟨i, j, rfl, rfl, q⟩
theorem k_ne {i j : Int} (q : Q (.bl (!decide (i = j))) H) : rIne (.int i) (.int j) H Q := ⟨i, j, rfl, rfl, q⟩
theorem k_seqS {i j : Str} (q : Q (.bl (decide (i = j))) H) : rSeq (.str i) (.str j) H Q := ⟨i, j, rfl, rfl, q⟩
theorem k_neS {i j : Str} (q : Q (.bl (!decide (i = j))) H) : rSne (.str i) (.str j) H Q := ⟨i, j, rfl, rfl, q⟩
theorem k_neB {i j : Bool} (q : Q (.bl (!decide (i = j))) H) : rBne (.bl i) (.bl j) H Q := ⟨i, j, rfl, rfl, q⟩
theorem k_addS {i j : Str} (h : i.length + j.length ≤ sizeLine) (q : Q (.str (i ++ j)) H) : rSadd (.str i) (.str j) H Q := ⟨i, j, rfl, rfl, h, q⟩
theorem k_isN (q : Q (.bl (decide (x = .non))) H) : rNis x .non H Q := ⟨rfl, q⟩
theorem k_noN (q : Q (.bl (!decide (x = .non))) H) : rNno x .non H Q := ⟨rfl, q⟩
-- fields
def LFld (C : Addr) (f : Str) (x : V) (H : Hp) (Q : VK) : Prop := ∃ a dx fs v, x = .ref a ∧ H a = some (.ins C dx fs) ∧ fs.lookup f = some v ∧ Q v H
theorem k_fld (h : ta σ H fun x H1 => LFld C f x H1 Q) : tFldC C f ta σ H Q := h
theorem l_fld {a dx : Addr} {fs : List (Str × V)} (h : H a = some (.ins C dx fs)) (l : fs.lookup f = some v) (q : Q v H) : LFld C f (.ref a) H Q := ⟨a, dx, fs, v, rfl, h, l, q⟩
def LFldS (C : Addr) (f : Str) (y x : V) (H : Hp) (R : Hp → Prop) : Prop := ∃ a dx fs, x = .ref a ∧ H a = some (.ins C dx fs) ∧ fs.length < 1000 ∧ R (upd H a (.ins C dx (putF f y fs)))
theorem k_fldS (h : tv σ H fun y H1 => ta σ H1 fun x H2 => LFldS C f y x H2 fun H3 => nx σ H3) : sFldC C f ta tv ⟨nx, rt, bk, ct⟩ σ H := h
theorem l_fldS {F : List Addr} {H0 : Hp} {a dx : Addr} {fs fs' : List (Str × V)} {R : Hp → Prop} (r : Run F H0 H) (h : H a = some (.ins C dx fs)) (z : fs.length < 1000) (e : putF f y fs = fs') (w : a ∈ F ∨ H0 a = none)
    (q : ∀ H', Run F H0 H' → H' a = some (.ins C dx fs') → (∀ b, b ≠ a → H' b = H b) → R H') : LFldS C f y (.ref a) H R :=
  ⟨a, dx, fs, rfl, h, z, by rw [e]; exact q _ (r.wr h (by intro _ z; cases z) w) upd_same fun b n => upd_ne n⟩
/-- an object whose method is called -/
def LIns (C : Addr) (m : Str) (x : V) (H : Hp) (P : Prop) : Prop := ∃ a dx fs, x = .ref a ∧ H a = some (.ins C dx fs) ∧ fs.lookup m = none ∧ P
theorem l_ins {a dx : Addr} {fs : List (Str × V)} {P : Prop} (h : H a = some (.ins C dx fs)) (l : fs.lookup m = none) (q : P) : LIns C m (.ref a) H P := ⟨a, dx, fs, rfl, h, l, q⟩
theorem k_methS {sp : Sp} {E : St → XK} (h : ta σ H fun x H1 => LIns C m x H1 (as σ H1 fun vs H2 => sp (x :: vs) H2 Q (E σ))) : tMethS C m sp E ta as σ H Q := h
theorem k_meth0 {sp : Sp} {E : St → XK} (h : ta σ H fun x H1 => LIns C m x H1 (sp [x] H1 Q (E σ))) : tMeth0 C m sp E ta σ H Q := h
theorem k_callS {sp : Sp} {E : St → XK} (h : as σ H fun vs H1 => sp vs H1 Q (E σ)) : tCallS sp E as σ H Q := h
theorem k_callE {sp : SpE} {a : Addr} {c : Value} {d : Option Addr} (h : as σ H fun vs H1 => sp a c d vs H1 Q E0) : tCallE sp a c d as σ H Q := h
-- dicts
def LDGet (x y : V) (H : Hp) (Q : VK) : Prop := ∃ a v, x = .ref a ∧ DGet H a y (some v) ∧ Q v H
theorem k_dget (h : td σ H fun x H1 => ty σ H1 fun y H2 => LDGet x y H2 Q) : tDGet td ty σ H Q := h
def LDIn (y x : V) (H : Hp) (Q : VK) : Prop := ∃ a o, x = .ref a ∧ DGet H a y o ∧ Q (.bl o.isSome) H
theorem k_din (h : ty σ H fun y H1 => td σ H1 fun x H2 => LDIn y x H2 Q) : tDIn ty td σ H Q := h
def LDNotIn (y x : V) (H : Hp) (Q : VK) : Prop := ∃ a o, x = .ref a ∧ DGet H a y o ∧ Q (.bl (!o.isSome)) H
theorem k_dnotin (h : ty σ H fun y H1 => td σ H1 fun x H2 => LDNotIn y x H2 Q) : tDNotIn ty td σ H Q := h
def LDPut (v x y : V) (H : Hp) (R : Hp → Prop) : Prop := ∃ a H4, x = .ref a ∧ DPut H a y v H4 ∧ R H4
theorem k_dput (h : tv σ H fun v H1 => td σ H1 fun x H2 => ty σ H2 fun y H3 => LDPut v x y H3 fun H4 => nx σ H4) : sDPut td ty tv ⟨nx, rt, bk, ct⟩ σ H := h
def LIsD (x : V) (H : Hp) (P : Addr → Prop) : Prop := ∃ a, x = .ref a ∧ IsD H a ∧ P a
def LDPop (a : Addr) (y : V) (H : Hp) (Q : VK) : Prop := ∃ kvs k v, H a = some (.dK kvs) ∧ y = kV k ∧ valV kvs k = some v ∧ Q v (upd H a (.dK (dropK kvs k)))
theorem k_dpop (h : td σ H fun x H1 => LIsD x H1 fun a => ty σ H1 fun y H2 => LDPop a y H2 Q) : tDPop1 td ty σ H Q := h
def LDGet2 (a : Addr) (y z : V) (H : Hp) (Q : VK) : Prop := ∃ o, DGet H a y o ∧ Q (o.getD z) H
theorem k_dget2 (h : td σ H fun x H1 => LIsD x H1 fun a => ty σ H1 fun y H2 => te σ H2 fun z H3 => LDGet2 a y z H3 Q) : tDGet2 td ty te σ H Q := h
theorem l_dgetI {a : Addr} {kvs : List (Key × V)} {n : Int} (h : H a = some (.dK kvs)) (e : valV kvs (Sum.inl n : Key) = some v) (q : Q v H) : LDGet (.ref a) (.int n) H Q := ⟨a, v, rfl, by rw [← e]; exact DGet.k (k := Sum.inl n) h, q⟩
theorem l_dgetS {a : Addr} {kvs : List (Key × V)} {n : Str} (h : H a = some (.dK kvs)) (e : valV kvs (Sum.inr n : Key) = some v) (q : Q v H) : LDGet (.ref a) (.str n) H Q := ⟨a, v, rfl, by rw [← e]; exact DGet.k (k := Sum.inr n) h, q⟩
theorem l_dgetIF {a : Addr} {kvs : List (Key × V)} {n : Int} {ob : Obj} (h : H a = some (.frz ob (.dK kvs))) (e : valV kvs (Sum.inl n : Key) = some v) (q : Q v H) : LDGet (.ref a) (.int n) H Q := ⟨a, v, rfl, .inl ⟨kvs, .inl n, .inr ⟨ob, h⟩, rfl, e.symm⟩, q⟩
theorem l_dgetSF {a : Addr} {kvs : List (Key × V)} {n : Str} {ob : Obj} (h : H a = some (.frz ob (.dK kvs))) (e : valV kvs (Sum.inr n : Key) = some v) (q : Q v H) : LDGet (.ref a) (.str n) H Q := ⟨a, v, rfl, .inl ⟨kvs, .inr n, .inr ⟨ob, h⟩, rfl, e.symm⟩, q⟩
theorem l_dinI {a : Addr} {kvs : List (Key × V)} {n : Int} (h : H a = some (.dK kvs)) (q : Q (.bl (valV kvs (Sum.inl n : Key)).isSome) H) : LDIn (.int n) (.ref a) H Q := ⟨a, _, rfl, DGet.k (k := Sum.inl n) h, q⟩
theorem l_dinS {a : Addr} {kvs : List (Key × V)} {n : Str} (h : H a = some (.dK kvs)) (q : Q (.bl (valV kvs (Sum.inr n : Key)).isSome) H) : LDIn (.str n) (.ref a) H Q := ⟨a, _, rfl, DGet.k (k := Sum.inr n) h, q⟩
theorem l_dnotinI {a : Addr} {kvs : List (Key × V)} {n : Int} (h : H a = some (.dK kvs)) (q : Q (.bl (!(valV kvs (Sum.inl n : Key)).isSome)) H) : LDNotIn (.int n) (.ref a) H Q := ⟨a, _, rfl, DGet.k (k := Sum.inl n) h, q⟩
theorem l_dnotinS {a : Addr} {kvs : List (Key × V)} {n : Str} (h : H a = some (.dK kvs)) (q : Q (.bl (!(valV kvs (Sum.inr n : Key)).isSome)) H) : LDNotIn (.str n) (.ref a) H Q := ⟨a, _, rfl, DGet.k (k := Sum.inr n) h, q⟩
theorem l_dputI {F : List Addr} {H0 : Hp} {a : Addr} {kvs kvs' : List (Key × V)} {n : Int} {R : Hp → Prop} (r : Run F H0 H) (h : H a = some (.dK kvs)) (z : kvs.length < sizeLine) (e : putK kvs (Sum.inl n : Key) v = kvs') (w : a ∈ F ∨ H0 a = none)
    (q : ∀ H', Run F H0 H' → H' a = some (.dK kvs') → (∀ b, b ≠ a → H' b = H b) → R H') : LDPut v (.ref a) (.int n) H R :=
  ⟨a, _, rfl, DPut.k (k := Sum.inl n) h z, q _ (r.wr h (by intro _ z; cases z) w) (by rw [← e]; exact upd_same) fun b n => upd_ne n⟩
theorem l_dputS {F : List Addr} {H0 : Hp} {a : Addr} {kvs kvs' : List (Key × V)} {n : Str} {R : Hp → Prop} (r : Run F H0 H) (h : H a = some (.dK kvs)) (z : kvs.length < sizeLine) (e : putK kvs (Sum.inr n : Key) v = kvs') (w : a ∈ F ∨ H0 a = none)
    (q : ∀ H', Run F H0 H' → H' a = some (.dK kvs') → (∀ b, b ≠ a → H' b = H b) → R H') : LDPut v (.ref a) (.str n) H R :=
  ⟨a, _, rfl, DPut.k (k := Sum.inr n) h z, q _ (r.wr h (by intro _ z; cases z) w) (by rw [← e]; exact upd_same) fun b n => upd_ne n⟩
theorem l_isD {a : Addr} {kvs : List (Key × V)} {P : Addr → Prop} (h : H a = some (.dK kvs)) (q : P a) : LIsD (.ref a) H P := ⟨a, rfl, .inl ⟨kvs, .inl h⟩, q⟩
theorem l_dpopI {F : List Addr} {H0 : Hp} {a : Addr} {kvs kvs' : List (Key × V)} {n : Int} (r : Run F H0 H) (h : H a = some (.dK kvs)) (e : valV kvs (Sum.inl n : Key) = some v) (e2 : dropK kvs (Sum.inl n : Key) = kvs') (w : a ∈ F ∨ H0 a = none)
    (q : ∀ H', Run F H0 H' → H' a = some (.dK kvs') → (∀ b, b ≠ a → H' b = H b) → Q v H') : LDPop a (.int n) H Q :=
  ⟨kvs, Sum.inl n, v, h, rfl, e, q _ (r.wr h (by intro _ z; cases z) w) (by rw [← e2]; exact upd_same) fun b n => upd_ne n⟩
theorem l_dpopS {F : List Addr} {H0 : Hp} {a : Addr} {kvs kvs' : List (Key × V)} {n : Str} (r : Run F H0 H) (h : H a = some (.dK kvs)) (e : valV kvs (Sum.inr n : Key) = some v) (e2 : dropK kvs (Sum.inr n : Key) = kvs') (w : a ∈ F ∨ H0 a = none)
    (q : ∀ H', Run F H0 H' → H' a = some (.dK kvs') → (∀ b, b ≠ a → H' b = H b) → Q v H') : LDPop a (.str n) H Q :=
  ⟨kvs, Sum.inr n, v, h, rfl, e, q _ (r.wr h (by intro _ z; cases z) w) (by rw [← e2]; exact upd_same) fun b n => upd_ne n⟩
theorem l_dget2S {a : Addr} {kvs : List (Key × V)} {n : Str} (h : H a = some (.dK kvs)) (q : Q ((valV kvs (Sum.inr n : Key)).getD x) H) : LDGet2 a (.str n) x H Q := ⟨_, DGet.k (k := Sum.inr n) h, q⟩
-- new lists, tuples
def LNew (o : HO) (H : Hp) (Q : VK) : Prop := ∀ p, H p = none → Q (.ref p) (upd H p o)
def LTup (vs : List V) (H : Hp) (Q : VK) : Prop := vs.length ≤ sizeLine ∧ LNew (.tup vs) H Q
def LLst (vs : List V) (H : Hp) (Q : VK) : Prop := vs.length ≤ sizeLine ∧ LNew (.lst vs) H Q
theorem k_tup (h : as σ H fun vs H1 => LTup vs H1 Q) : tTup as σ H Q := h
theorem k_lst (h : as σ H fun vs H1 => LLst vs H1 Q) : tLst as σ H Q := h
theorem l_tup {vs : List V} (z : vs.length ≤ 1000) (q : LNew (.tup vs) H Q) : LTup vs H Q := ⟨Nat.le_trans z (by decide), q⟩
theorem l_lst {vs : List V} (z : vs.length ≤ 1000) (q : LNew (.lst vs) H Q) : LLst vs H Q := ⟨Nat.le_trans z (by decide), q⟩
theorem k_dnew (q : LNew (.dK []) H Q) : tDNewK σ H Q := q
/-- a new object: the heap behind it by what is known of it -/
theorem l_new {F : List Addr} {H0 : Hp} (r : Run F H0 H) (q : ∀ p H', H0 p = none → p ∉ F → H p = none → Run F H0 H' → H' p = some o → Same H H' → Q (.ref p) H') : LNew o H Q := fun p hp =>
  let ⟨r1, r2, r3⟩ := r.new hp
  q p _ r2 r3 hp r1 upd_same (fun a u e => by rw [upd_ne (ne_of_none e hp)]; exact e)
/-- xs.append(e) -/
theorem k_append {K : PySem.W.Frag} (h : ta σ H fun x H1 => tyV K "list" x H1 ∧ as σ H1 fun xs H2 => rAppend x xs H2 Q) : tBM K "list" rAppend ta as σ H Q := h
theorem l_tyL {K : PySem.W.Frag} {a : Addr} {xs : List V} {P : Prop} (h : H a = some (.lst xs)) (q : P) : tyV K "list" (.ref a) H ∧ P := ⟨.inl ⟨rfl, xs, SqL.of h⟩, q⟩
theorem l_append {F : List Addr} {H0 : Hp} {a : Addr} {xs : List V} (r : Run F H0 H) (h : H a = some (.lst xs)) (z : xs.length < sizeLine) (w : a ∈ F ∨ H0 a = none)
    (q : ∀ H', Run F H0 H' → H' a = some (.lst (xs ++ [v])) → (∀ b, b ≠ a → H' b = H b) → Q .non H') : rAppend (.ref a) [v] H Q :=
  ⟨a, xs, v, rfl, rfl, h, z, q _ (r.wr h (by intro _ z; cases z) w) upd_same fun b n => upd_ne n⟩
-- items
def LIxL (K : PySem.W.Frag) (x y : V) (H : Hp) (Q : VK) : Prop := rIxL K x y H Q
theorem l_ixL {a : Addr} {xs : List V} {n : Int} (h : SqL K H a xs) (e : atI xs n = some v) (q : Q v H) : rIxL K (.ref a) (.int n) H Q := ⟨a, xs, n, v, rfl, rfl, h, e, q⟩
theorem l_ixT {a : Addr} {xs : List V} {n : Int} (h : SqT K H a xs) (e : atI xs n = some v) (q : Q v H) : rIxT K (.ref a) (.int n) H Q := ⟨a, xs, n, v, rfl, rfl, h, e, q⟩
theorem k_ift {A B : Prop} (h : A) : if true = true then A else B := by rw [if_pos rfl]; exact h
theorem k_iff {A B : Prop} (h : B) : if false = true then A else B := by rw [if_neg Bool.false_ne_true]; exact h
theorem k_if {b : Bool} {A B : Prop} (h1 : b = true → A) (h0 : b = false → B) : if b = true then A else B := by
  cases b with
  | true => exact k_ift (h1 rfl)
  | false => exact k_iff (h0 rfl)
/-- a test on a proposition -/
theorem k_ifd {p : Prop} [Decidable p] {A B : Prop} (h1 : p → A) (h0 : ¬ p → B) : if decide p = true then A else B := k_if (fun e => h1 (of_decide_eq_true e)) fun e => h0 (of_decide_eq_false e)
theorem k_ifnd {p : Prop} [Decidable p] {A B : Prop} (h1 : ¬ p → A) (h0 : p → B) : if (!decide p) = true then A else B := by
  by_cases h : p
  · rw [decide_eq_true h]
    exact k_iff (h0 h)
  · rw [decide_eq_false h]
    exact k_ift (h1 h)
-- constructors
theorem k_makeS {sp : Sp} {E : St → XK} (h : as σ H fun vs H1 => LMake C (fun x => .ref x :: vs) sp H1 Q (E σ)) : tMakeS C sp E as σ H Q := h
theorem k_makeG {sp : Sp} {n m : Nat} {gV : List V → List V → List V} {E : St → XK} {tk : TA} (h : as σ H fun vs H1 => tk σ H1 fun zs H2 => vs.length = n ∧ zs.length = m ∧ LMake C (fun x => gV (.ref x :: vs) zs) sp H2 Q (E σ)) : tMakeG C n m sp gV E as tk σ H Q := h
theorem l_make {F : List Addr} {H0 : Hp} {as : Addr → List V} {sp : Sp} {E : XK} (r : Run F H0 H)
    (q : ∀ x dx H', H0 x = none → x ∉ F → H x = none → Run F H0 H' → H' x = some (.ins C dx []) → Same H H' → sp (as x) H' (fun v H2 => v = .non ∧ Q (.ref x) H2) E) : LMake C as sp H Q E := fun x dx hx hd ne => by
  have s1 : Same H (upd H dx (.own x)) := fun a u e => by rw [upd_ne (ne_of_none e hd)]; exact e
  have hx1 : upd H dx (.own x) x = none := (upd_ne ne.symm).trans hx
  have s2 : Same (upd H dx (.own x)) (upd (upd H dx (.own x)) x (.ins C dx [])) := fun a u e => by rw [upd_ne (ne_of_none e hx1)]; exact e
  obtain ⟨ra, _, _⟩ := r.new (o := .own x) hd
  obtain ⟨rb, f1, f2⟩ := ra.new (o := .ins C dx []) hx1
  exact q x dx _ f1 f2 hx rb upd_same (fun a u e => s2 a u (s1 a u e))
theorem k_made {p : Addr} (q : Q (.ref p) H) : V.non = .non ∧ Q (.ref p) H := ⟨rfl, q⟩
end
end LW
namespace LW
open PySem L2
theorem hf_n {H H' : Hp} {a b : Addr} {o : HO} (n : ∀ b, b ≠ a → H' b = H b) (h : H b = some o) (ne : b ≠ a) : H' b = some o := (n b ne).trans h
theorem hf_s {H H' : Hp} {b : Addr} {o : HO} (s : Same H H') (h : H b = some o) : H' b = some o := s b o h
theorem hf_e {F : List Addr} {H H' : Hp} {b : Addr} {o : HO} (s : Ext F H H') (h : H b = some o) (n : b ∉ F) : H' b = some o := s.keep b o h n
theorem notin_nil {a : Addr} : a ∉ ([] : List Addr) := List.not_mem_nil
theorem notin_cons {a b : Addr} {l : List Addr} (h : a ≠ b) (n : a ∉ l) : a ∉ b :: l := fun z => (List.mem_cons.mp z).elim h n
end LW

set_option maxHeartbeats 4000000
namespace LW
open PySem PySem.Spec PyProof.Rows L2
theorem tkd {P : Program} {w : World} {K : PySem.W.Frag} {mg : Str → Option Value} {base : Heap} {N : List Str} {qual : Str} {scope : Scope} {f : Addr} {cd : Value} {A : Around} {outer : List Env} {s : Shared} {H : Hp} {E : XK} :
    L2N.Takes (cxOf (L2N.CX P w) P w K mg base N qual scope f cd A outer s H E) (fun cls d _ H => E cls d H) := L2N.takes_of rfl rfl rfl rfl
theorem pod {P : Program} {w : World} {K : PySem.W.Frag} {mg : Str → Option Value} {base : Heap} {N : List Str} {qual : Str} {scope : Scope} {f : Addr} {cd : Value} {A : Around} {outer : List Env} {s : Shared} {H : Hp} {E : XK} :
    PassesOwn (model P w) (cxOf (L2N.CX P w) P w K mg base N qual scope f cd A outer s H E).A (cxOf (L2N.CX P w) P w K mg base N qual scope f cd A outer s H E).env (cxOf (L2N.CX P w) P w K mg base N qual scope f cd A outer s H E).xe :=
  L2.passes_of (X := cxOf (L2N.CX P w) P w K mg base N qual scope f cd A outer s H E) rfl
theorem tk0 {X : Cx} : L2N.Takes X (fun _ _ _ _ => False) := fun _ _ x => by
  obtain ⟨_, _, _, _, _, _, _, _, _, _, _, _, _, _, _, _, z⟩ := x
  exact z.elim

theorem pe_globI {X : Cx} {x : Str} {i : Int} {t : Tok} {pos : Pos} (hg : Gl X x) (hm : X.mg x = some (.int i t)) (hd : (x == ("__debug__" : Str)) = false := by decide) : PE X (.Name x pos) (tC (.int i)) := pe_glob hg hm ⟨_, rfl⟩ hd

/-- a built-in type by its name -/
theorem pe_bltT {X : Cx} {x : Str} {n : String} {pos : Pos} (hg : Gl X x) (hm : X.mg x = none) (hv : bootBuiltins x = some (.type n)) (hn : x ≠ "__name__" := by decide) (hd : (x == ("__debug__" : Str)) = false := by decide) : PE X (.Name x pos) (tC (.ty n)) :=
  pe_bltn hg hm hv rfl hn hd
/-! ### tuples are kept -/
def TupK (H H' : Hp) : Prop := ∀ a xs, H a = some (.tup xs) → H' a = some (.tup xs)
theorem TupK.trans {H H1 H2 : Hp} (a : TupK H H1) (b : TupK H1 H2) : TupK H H2 := fun c xs h => b c xs (a c xs h)
theorem TupK.of {F : List Addr} {H H' : Hp} (e : Ext F H H') : TupK H H' := e.tups
theorem TupK.upd {H : Hp} {p : Addr} {o : HO} (h : ∀ xs, H p ≠ some (.tup xs)) : TupK H (upd H p o) := fun a xs e => by
  rw [upd_ne fun z => h xs (by rw [← z]; exact e)]
  exact e

/-! ### for -/
section
variable {K : PySem.W.Frag} {nx bk ct : St → Hp → Prop} {rt : VK} {σ : St} {H : Hp} {Q : VK} {tb : TS} {g : TG} {te tl td : TE} {tt : TT} {ta : TA}
def LFor (K : PySem.W.Frag) (g : TG) (tb : TS) (D : Ends) (σ : St) (x : V) (H : Hp) : Prop := ∃ a, x = .ref a ∧ (∃ xs, SqL K H a xs) ∧ ∃ W : Nat → Nat → St → Hp → Prop, (∃ m, W 0 m σ H) ∧ ∀ i m σ H, W i m σ H →
  ((Itl K a).stop i H ∧ D.nx σ H) ∨ ((Itl K a).go i H ∧ ∃ N : St → Hp → Prop, (∀ σ' H', N σ' H' → ∃ m', m' < m ∧ W (i + 1) m' σ' H') ∧ ∀ x H', (Itl K a).yld i H x H' → g x σ H' fun σ2 H2 => tb { D with nx := N, ct := N, bk := D.nx } σ2 H2)
theorem k_for (h : tl σ H fun x H1 => LFor K g tb ⟨nx, rt, bk, ct⟩ σ x H1) : tFor (iList K tl) g tb ⟨nx, rt, bk, ct⟩ σ H := h
/-- over a list that stays: P ahead of turn i -/
theorem l_for {a : Addr} {xs : List V} (h : SqL K H a xs) (Pv : Nat → St → Hp → Prop) (h0 : Pv 0 σ H) (hl : ∀ i σ H, i ≤ xs.length → Pv i σ H → SqL K H a xs)
    (hs : ∀ i x σ H, xs[i]? = some x → Pv i σ H → g x σ H fun σ2 H2 => tb ⟨Pv (i + 1), rt, nx, Pv (i + 1)⟩ σ2 H2) (hd : ∀ σ H, Pv xs.length σ H → nx σ H) :
    LFor K g tb ⟨nx, rt, bk, ct⟩ σ (.ref a) H := ⟨a, rfl, ⟨xs, h⟩, for_list (D := ⟨nx, rt, bk, ct⟩) Pv h0 hl hs hd⟩
def LRng (g : TG) (tb : TS) (D : Ends) (σ : St) (lo : Int) (n : Nat) (H : Hp) : Prop := ∃ W : Nat → Nat → St → Hp → Prop, (∃ m, W 0 m σ H) ∧ ∀ i m σ H, W i m σ H →
  ((Itr lo n).stop i H ∧ D.nx σ H) ∨ ((Itr lo n).go i H ∧ ∃ N : St → Hp → Prop, (∀ σ' H', N σ' H' → ∃ m', m' < m ∧ W (i + 1) m' σ' H') ∧ ∀ x H', (Itr lo n).yld i H x H' → g x σ H' fun σ2 H2 => tb { D with nx := N, ct := N, bk := D.nx } σ2 H2)
theorem l_rng {lo : Int} {n : Nat} (Pv : Nat → St → Hp → Prop) (h0 : Pv 0 σ H)
    (hs : ∀ i σ H, i < n → Pv i σ H → g (.int (lo + i)) σ H fun σ2 H2 => tb ⟨Pv (i + 1), rt, nx, Pv (i + 1)⟩ σ2 H2) (hd : ∀ σ H, Pv n σ H → nx σ H) :
    LRng g tb ⟨nx, rt, bk, ct⟩ σ lo n H := for_range (D := ⟨nx, rt, bk, ct⟩) Pv h0 hs hd
def LRngC (g : TG) (tb : TS) (D : Ends) (σ : St) (lo c : Int) (n : Nat) (H : Hp) : Prop := ∃ W : Nat → Nat → St → Hp → Prop, (∃ m, W 0 m σ H) ∧ ∀ i m σ H, W i m σ H →
  ((Itc lo c n).stop i H ∧ D.nx σ H) ∨ ((Itc lo c n).go i H ∧ ∃ N : St → Hp → Prop, (∀ σ' H', N σ' H' → ∃ m', m' < m ∧ W (i + 1) m' σ' H') ∧ ∀ x H', (Itc lo c n).yld i H x H' → g x σ H' fun σ2 H2 => tb { D with nx := N, ct := N, bk := D.nx } σ2 H2)
/-- how many turns -/
def stepN (i j c : Int) : Nat := (Builtin.Range.rangeSize i j c).toNat
theorem stepN_eq {i j c : Int} (hc : 0 < c) : (stepN i j c : Int) = if i < j then (j - i - 1) / c + 1 else 0 := by
  unfold stepN Builtin.Range.rangeSize
  rw [if_pos hc]
  by_cases h : i < j
  · rw [if_pos h]
    have : 0 ≤ (j - i - 1) / c := Int.ediv_nonneg (by omega) (by omega)
    omega
  · rw [if_neg h]; rfl
theorem rgc_up {i j c : Int} (h1 : 0 ≤ i) (h2 : i ≤ 100000) (h3 : -100000 ≤ j) (h4 : j ≤ 100000) (h5 : 0 < c) (h6 : c ≤ 1000) : RgC i j c (stepN i j c) := by
  have e : Builtin.Range.rangeSize i j c = if i < j then (j - i - 1) / c + 1 else 0 := by
    unfold Builtin.Range.rangeSize
    rw [if_pos h5]
  have b : i < j → 0 ≤ (j - i - 1) / c ∧ (j - i - 1) / c ≤ j - i - 1 := fun h => ⟨Int.ediv_nonneg (by omega) (by omega), Int.ediv_le_self _ (by omega)⟩
  refine ⟨by omega, by omega, ?_, ?_⟩
  · unfold Builtin.Range.small
    rw [e]
    simp only [Builtin.Range.rangeFitsLong, Bool.and_eq_true, Bool.or_eq_true, decide_eq_true_eq, beq_iff_eq, h5, if_true]
    by_cases h : i < j
    · have := b h
      simp only [h, if_true]
      refine ⟨?_, ?_⟩ <;> first | omega | (refine ⟨?_, ?_⟩ <;> omega)
    · simp only [h, if_false]
      refine ⟨?_, ?_⟩ <;> first | omega | (refine ⟨?_, ?_⟩ <;> omega)
  · rw [stepN_eq h5, e]
def LR3 (g : TG) (tb : TS) (D : Ends) (σ : St) (vs : List V) (H : Hp) : Prop := ∃ (i j c : Int) (n : Nat), vs = [.int i, .int j, .int c] ∧ RgC i j c n ∧ LRngC g tb D σ i c n H
theorem k_rng3 (h : ta σ H fun vs H1 => LR3 g tb ⟨nx, rt, bk, ct⟩ σ vs H1) : tFor (iRng3 ta) g tb ⟨nx, rt, bk, ct⟩ σ H := h
theorem l_rng3 {D : Ends} {i j c : Int} (h : 0 ≤ i ∧ i ≤ 100000 ∧ -100000 ≤ j ∧ j ≤ 100000 ∧ 0 < c ∧ c ≤ 1000) (q : LRngC g tb D σ i c (stepN i j c) H) : LR3 g tb D σ [.int i, .int j, .int c] H :=
  ⟨i, j, c, _, rfl, let ⟨h1, h2, h3, h4, h5, h6⟩ := h; rgc_up h1 h2 h3 h4 h5 h6, q⟩
def LR2 (g : TG) (tb : TS) (D : Ends) (σ : St) (vs : List V) (H : Hp) : Prop := ∃ i j : Int, vs = [.int i, .int j] ∧ (-(2 ^ 62) ≤ i ∧ i < 2 ^ 62 ∧ -(2 ^ 62) ≤ j ∧ j < 2 ^ 62) ∧ LRng g tb D σ i (j - i).toNat H
theorem k_rng2 (h : ta σ H fun vs H1 => LR2 g tb ⟨nx, rt, bk, ct⟩ σ vs H1) : tFor (iRng2 ta) g tb ⟨nx, rt, bk, ct⟩ σ H := h
theorem l_rng2 {D : Ends} {i j : Int} (h : -100000 ≤ i ∧ i ≤ 100000 ∧ -100000 ≤ j ∧ j ≤ 100000) (q : LRng g tb D σ i (j - i).toNat H) : LR2 g tb D σ [.int i, .int j] H :=
  ⟨i, j, rfl, let ⟨h1, h2, h3, h4⟩ := h; ⟨by omega, by omega, by omega, by omega⟩, q⟩
def LR1 (g : TG) (tb : TS) (D : Ends) (σ : St) (vs : List V) (H : Hp) : Prop := ∃ j : Int, vs = [.int j] ∧ -(2 ^ 62) ≤ j ∧ j < 2 ^ 62 ∧ LRng g tb D σ 0 j.toNat H
theorem k_rng1 (h : ta σ H fun vs H1 => LR1 g tb ⟨nx, rt, bk, ct⟩ σ vs H1) : tFor (iRng1 ta) g tb ⟨nx, rt, bk, ct⟩ σ H := h
theorem l_rng1 {D : Ends} {j : Int} (h : -100000 ≤ j ∧ j ≤ 100000) (q : LRng g tb D σ 0 j.toNat H) : LR1 g tb D σ [.int j] H := ⟨j, rfl, by omega, by omega, q⟩
theorem l_rngC {lo c : Int} {n : Nat} (Pv : Nat → St → Hp → Prop) (h0 : Pv 0 σ H)
    (hs : ∀ i σ H, i < n → Pv i σ H → g (.int (lo + (i : Nat) * c)) σ H fun σ2 H2 => tb ⟨Pv (i + 1), rt, nx, Pv (i + 1)⟩ σ2 H2) (hd : ∀ σ H, Pv n σ H → nx σ H) :
    LRngC g tb ⟨nx, rt, bk, ct⟩ σ lo c n H := for_rangeC (D := ⟨nx, rt, bk, ct⟩) Pv h0 hs hd
theorem g_name {j : Nat} {x : V} {R : St → Hp → Prop} (h : R (σ.set j (some x)) H) : gName j x σ H R := h

/-! ### comprehensions -/
theorem sets3 (σ : St) (j : Nat) (x : Option V) : (σ.set j none).set j x = σ.set j x := by rw [List.set_set]
/-- over the keys of a dict; P i acc H: what the list holds behind i turns, by tuples alone -/
theorem lc_keys {d : Addr} {kvs : List (Key × V)} {j : Nat} (hd : H d = some (.dK kvs)) (hz : kvs.length < sizeLine)
    (htd : ∀ od (R : VK), R (.ref d) (upd H d (.frz od (.dK kvs))) → td σ (upd H d (.frz od (.dK kvs))) R)
    (P : Nat → List V → Hp → Prop) (h0 : P 0 [] H) (hP : ∀ i acc H1 H2, TupK H1 H2 → P i acc H1 → P i acc H2)
    (hs : ∀ i k v od acc H1 (R : VK) (R0 : Hp → Prop), kvs[i]? = some (k, v) → H1 d = some (.frz od (.dK kvs)) → (∀ a o, a ≠ d → H a = some o → H1 a = some o) → acc.length ≤ i → P i acc H1 →
      (∀ y H4, Ext [] H1 H4 → P (i + 1) (acc ++ [y]) H4 → R y H4) → (∀ H3, Ext [] H1 H3 → P (i + 1) acc H3 → R0 H3) →
      tt (σ.set j (some (kV k))) H1 fun b H3 => if b = true then te (σ.set j (some (kV k))) H3 R else R0 H3)
    (q : ∀ D H' acc, H D = none → Ext [] H H' → H' D = some (.lst acc) → acc.length ≤ kvs.length → P kvs.length acc H' → Q (.ref D) H') :
    tLockE (tLc (iKeys td) (gName j) tt te [j]) σ H Q := by
  refine ⟨d, .dK kvs, hd, trivial, fun od => ?_⟩
  refine htd od _ ⟨d, od, rfl, .inl ⟨kvs, upd_same, fun D hD => ?_⟩⟩
  have dD : D ≠ d := fun z => by rw [z, upd_same] at hD; cases hD
  have hD0 : H D = none := by rw [← hD, upd_ne dD]
  -- what holds ahead of turn i
  refine ⟨fun i m H1 => m = kvs.length - i ∧ i ≤ kvs.length ∧ ∃ acc, H1 D = some (.lst acc) ∧ acc.length ≤ i ∧ H1 d = some (.frz od (.dK kvs)) ∧ (∀ a o, a ≠ d → H a = some o → H1 a = some o) ∧ P i acc H1,
    ⟨kvs.length, by simp, Nat.zero_le _, [], upd_same, Nat.le_refl _, by rw [upd_ne dD.symm, upd_same], fun a o h e => ?_, hP 0 [] H _ (fun a xs e => ?_) h0⟩, ?_⟩
  · rw [upd_ne (ne_of_none e hD0), upd_ne h]
    exact e
  · rw [upd_ne (ne_of_none e hD0), upd_ne (ne_of e hd fun z => by cases z)]
    exact e
  rintro i m H1 ⟨rfl, hi, acc, hA, hl, hf, hk, p⟩
  by_cases hlt : i < kvs.length
  · refine .inr ⟨⟨hf, hlt⟩, fun H' => (i + 1 ≤ kvs.length ∧ ∃ acc, H' D = some (.lst acc) ∧ acc.length ≤ i + 1 ∧ H' d = some (.frz od (.dK kvs)) ∧ (∀ a o, a ≠ d → H a = some o → H' a = some o) ∧ P (i + 1) acc H'),
      fun H' p' => ⟨kvs.length - (i + 1), by omega, rfl, p'.1, p'.2⟩, fun x H' y => ?_⟩
    obtain ⟨e, k, v, ek, ex⟩ := y
    subst e ex
    show gName j (kV k) (wipe σ [j]) _ _
    have e1 : (wipe σ [j]).set j (some (kV k)) = σ.set j (some (kV k)) := sets3 σ j _
    have e2 : wipe ((wipe σ [j]).set j (some (kV k))) [j] = wipe σ [j] := by
      show ((σ.set j none).set j (some (kV k))).set j none = σ.set j none
      rw [List.set_set, List.set_set]
    refine ⟨e2, ?_⟩
    rw [e1]
    refine hs i k v od acc H' _ _ ek hf hk hl p (fun y H4 e4 p4 => ?_) fun H3 e3 p3 => ?_
    · have h4 : H4 D = some (.lst acc) := e4.keep _ _ hA (by simp)
      refine ⟨acc, h4, Nat.lt_of_le_of_lt hl (Nat.lt_trans hlt hz), hlt, acc ++ [y], upd_same, by rw [List.length_append]; simpa using hl, by rw [upd_ne dD.symm]; exact e4.keep _ _ hf (by simp), fun a o n e => ?_,
        hP _ _ H4 _ (TupK.upd fun xs z => by rw [h4] at z; cases z) p4⟩
      rw [upd_ne (ne_of_none e hD0)]
      exact e4.keep _ _ (hk a o n e) (by simp)
    · exact ⟨hlt, acc, e3.keep _ _ hA (by simp), Nat.le_succ_of_le hl, e3.keep _ _ hf (by simp), fun a o n e => e3.keep _ _ (hk a o n e) (by simp), p3⟩
  · have e : i = kvs.length := by omega
    subst e
    refine .inl ⟨⟨hf, Nat.le_refl _⟩, hf, q D _ acc hD0 ⟨fun a o e _ => ?_, fun a xs e => ?_⟩ ?_ (by omega) (hP _ _ H1 _ (TupK.upd fun xs z => by rw [hf] at z; cases z) p)⟩
    · by_cases z : a = d
      · rw [z, upd_same, ← hd, ← z]; exact e
      · rw [upd_ne z]; exact hk a o z e
    · have z : a ≠ d := ne_of e hd fun z => by cases z
      rw [upd_ne z]; exact hk a _ z e
    · rw [upd_ne dD]; exact hA
end
end LW

set_option maxHeartbeats 4000000
namespace LW
open PySem PySem.Spec PyProof.Rows L2
/-! ### tables as lists of pairs -/
section
variable {κ α : Type} [DecidableEq κ]
def aget (l : List (κ × α)) (k : κ) : Option α := (l.find? fun p => decide (p.1 = k)).map (·.2)
def aput (l : List (κ × α)) (k : κ) (v : α) : List (κ × α) := if (l.any fun p => decide (p.1 = k)) = true then l.map (fun p => if p.1 = k then (p.1, v) else p) else l ++ [(k, v)]
def adrop (l : List (κ × α)) (k : κ) : List (κ × α) := l.filter fun p => decide (p.1 ≠ k)
theorem aget_nil {k : κ} : aget ([] : List (κ × α)) k = none := rfl
theorem aget_cons {p : κ × α} {r : List (κ × α)} {k : κ} : aget (p :: r) k = if p.1 = k then some p.2 else aget r k := by
  unfold aget
  rw [List.find?_cons]
  by_cases h : p.1 = k
  · simp [h]
  · simp [h]
theorem aget_none {l : List (κ × α)} {k : κ} : aget l k = none ↔ k ∉ l.map (·.1) := by
  induction l with
  | nil => simp [aget_nil]
  | cons p r ih =>
    rw [aget_cons, List.map_cons, List.mem_cons]
    by_cases h : p.1 = k
    · simp [h]
    · rw [if_neg h, ih]
      constructor
      · rintro a (b | b)
        · exact h b.symm
        · exact a b
      · exact fun a b => a (.inr b)
theorem aget_some_mem {l : List (κ × α)} {k : κ} {v : α} (h : aget l k = some v) : (k, v) ∈ l := by
  induction l with
  | nil => cases h
  | cons p r ih =>
    rw [aget_cons] at h
    by_cases e : p.1 = k
    · rw [if_pos e] at h
      cases h
      subst e
      exact List.mem_cons_self
    · rw [if_neg e] at h
      exact List.mem_cons_of_mem _ (ih h)
theorem aget_of_mem {l : List (κ × α)} {k : κ} {v : α} (nd : (l.map (·.1)).Nodup) (h : (k, v) ∈ l) : aget l k = some v := by
  induction l with
  | nil => cases h
  | cons p r ih =>
    rw [List.map_cons, List.nodup_cons] at nd
    rw [aget_cons]
    rcases List.mem_cons.mp h with e | e
    · subst e; simp
    · have : ¬ p.1 = k := fun z => nd.1 (z ▸ List.mem_map.mpr ⟨(k, v), e, rfl⟩)
      rw [if_neg this]
      exact ih nd.2 e
theorem aany {l : List (κ × α)} {k : κ} : (l.any fun p => decide (p.1 = k)) = (aget l k).isSome := by
  induction l with
  | nil => rfl
  | cons p r ih =>
    rw [List.any_cons, aget_cons, ih]
    by_cases h : p.1 = k <;> simp [h]
theorem aput_new {l : List (κ × α)} {k : κ} {v : α} (h : aget l k = none) : aput l k v = l ++ [(k, v)] := by
  unfold aput
  rw [aany, h]
  rfl
theorem aput_old {l : List (κ × α)} {k : κ} {v u : α} (h : aget l k = some u) : aput l k v = l.map (fun p => if p.1 = k then (p.1, v) else p) := by
  unfold aput
  rw [aany, h]
  rfl
theorem keys_aput_old {l : List (κ × α)} {k : κ} {v u : α} (h : aget l k = some u) : (aput l k v).map (·.1) = l.map (·.1) := by
  rw [aput_old h, List.map_map]
  refine List.map_congr_left fun p _ => ?_
  show (if p.1 = k then (p.1, v) else p).1 = p.1
  by_cases e : p.1 = k <;> simp [e]
theorem keys_aput_new {l : List (κ × α)} {k : κ} {v : α} (h : aget l k = none) : (aput l k v).map (·.1) = l.map (·.1) ++ [k] := by
  rw [aput_new h, List.map_append]
  rfl
theorem length_aput {l : List (κ × α)} {k : κ} {v : α} : (aput l k v).length ≤ l.length + 1 := by
  unfold aput
  split
  · rw [List.length_map]; omega
  · rw [List.length_append]; simp
theorem nodup_aput {l : List (κ × α)} {k : κ} {v : α} (h : (l.map (·.1)).Nodup) : ((aput l k v).map (·.1)).Nodup := by
  cases e : aget l k with
  | none =>
    rw [keys_aput_new e]
    refine List.nodup_append.mpr ⟨h, by simp, fun a m b n => ?_⟩
    rw [List.mem_singleton] at n
    subst n
    exact fun z => aget_none.mp e (z ▸ m)
  | some u => rw [keys_aput_old e]; exact h
theorem mem_keys_aput {l : List (κ × α)} {k j : κ} {v : α} : j ∈ (aput l k v).map (·.1) ↔ j = k ∨ j ∈ l.map (·.1) := by
  cases e : aget l k with
  | none => rw [keys_aput_new e]; simp [or_comm]
  | some u =>
    rw [keys_aput_old e]
    constructor
    · exact .inr
    · rintro (rfl | h)
      · exact List.mem_map.mpr ⟨_, aget_some_mem e, rfl⟩
      · exact h
theorem aget_aput {l : List (κ × α)} {k j : κ} {v : α} : aget (aput l k v) j = if k = j then some v else aget l j := by
  cases e : aget l k with
  | none =>
    rw [aput_new e]
    induction l with
    | nil => rw [List.nil_append, aget_cons]
    | cons p r ih =>
      rw [aget_cons] at e
      by_cases h : p.1 = k
      · rw [if_pos h] at e; cases e
      · rw [if_neg h] at e
        rw [List.cons_append, aget_cons, aget_cons, ih e]
        by_cases z : p.1 = j
        · rw [if_pos z, if_pos z, if_neg (fun y => h (z.trans y.symm))]
        · rw [if_neg z, if_neg z]
  | some u =>
    rw [aput_old e]
    induction l generalizing u with
    | nil => cases e
    | cons p r ih =>
      rw [aget_cons] at e
      rw [List.map_cons, aget_cons, aget_cons]
      by_cases h : p.1 = k
      · have e1 : (if p.1 = k then (p.1, v) else p) = (p.1, v) := if_pos h
        rw [e1]
        show (if p.1 = j then some v else _) = _
        by_cases z : p.1 = j
        · rw [if_pos z, if_pos (h.symm.trans z)]
        · rw [if_neg z, if_neg z, if_neg (fun y => z (h.trans y))]
          cases e2 : aget r k with
          | none =>
            have : r.map (fun p => if p.1 = k then (p.1, v) else p) = r := by
              conv => rhs; rw [← List.map_id r]
              refine List.map_congr_left fun q hq => ?_
              have : ¬ q.1 = k := fun y => aget_none.mp e2 (List.mem_map.mpr ⟨q, hq, y⟩)
              rw [if_neg this]; rfl
            rw [this]
          | some u2 =>
            rw [ih u2 e2, if_neg (fun y => z (h.trans y))]
      · rw [if_neg h] at e
        rw [if_neg h, ih u e]
        by_cases z : p.1 = j
        · rw [if_pos z, if_pos z, if_neg (fun y => h (z.trans y.symm))]
        · rw [if_neg z, if_neg z]
theorem aget_adrop {l : List (κ × α)} {k j : κ} : aget (adrop l k) j = if k = j then none else aget l j := by
  induction l with
  | nil => rw [show adrop ([] : List (κ × α)) k = [] from rfl, aget_nil]; simp
  | cons p r ih =>
    unfold adrop at ih ⊢
    rw [List.filter_cons]
    by_cases h : p.1 = k
    · rw [if_neg (by simp [h]), ih, aget_cons]
      by_cases z : k = j
      · rw [if_pos z, if_pos z]
      · rw [if_neg z, if_neg z, if_neg (fun y => z (h.symm.trans y))]
    · rw [if_pos (by simp [h]), aget_cons, ih, aget_cons]
      by_cases z : p.1 = j
      · rw [if_pos z, if_pos z, if_neg (fun y => h (z.trans y.symm))]
      · rw [if_neg z, if_neg z]
theorem nodup_adrop {l : List (κ × α)} {k : κ} (h : (l.map (·.1)).Nodup) : ((adrop l k).map (·.1)).Nodup := h.sublist (List.Sublist.map _ List.filter_sublist)
theorem length_adrop {l : List (κ × α)} {k : κ} : (adrop l k).length ≤ l.length := List.length_filter_le _ _
theorem mem_adrop {l : List (κ × α)} {k : κ} {p : κ × α} : p ∈ adrop l k ↔ p ∈ l ∧ p.1 ≠ k := by
  unfold adrop
  rw [List.mem_filter, decide_eq_true_eq]
theorem mem_keys_adrop {l : List (κ × α)} {k j : κ} : j ∈ (adrop l k).map (·.1) ↔ j ∈ l.map (·.1) ∧ j ≠ k := by
  constructor
  · intro h
    obtain ⟨p, m, e⟩ := List.mem_map.mp h
    obtain ⟨m1, m2⟩ := mem_adrop.mp m
    exact ⟨List.mem_map.mpr ⟨p, m1, e⟩, e ▸ m2⟩
  · rintro ⟨h, n⟩
    obtain ⟨p, m, e⟩ := List.mem_map.mp h
    exact List.mem_map.mpr ⟨p, mem_adrop.mpr ⟨m, e ▸ n⟩, e⟩
theorem mem_aput {l : List (κ × α)} {k : κ} {v : α} {p : κ × α} (h : p ∈ aput l k v) : p = (k, v) ∨ (p ∈ l ∧ p.1 ≠ k) := by
  cases e : aget l k with
  | none =>
    rw [aput_new e] at h
    rcases List.mem_append.mp h with m | m
    · exact .inr ⟨m, fun z => aget_none.mp e (List.mem_map.mpr ⟨p, m, z⟩)⟩
    · exact .inl (List.mem_singleton.mp m)
  | some u =>
    rw [aput_old e] at h
    obtain ⟨q, m, z⟩ := List.mem_map.mp h
    by_cases y : q.1 = k
    · rw [if_pos y] at z
      exact .inl (by rw [← z, y])
    · rw [if_neg y] at z
      subst z
      exact .inr ⟨m, y⟩
end

/-! ### tables of a dict -/
section
variable {α : Type}
/-- keys are ints -/
def ik (W : Int → α → V) (l : List (Int × α)) : List (Key × V) := l.map fun p => (Sum.inl p.1, W p.1 p.2)
/-- keys are texts -/
def sk (W : Str → α → V) (l : List (Str × α)) : List (Key × V) := l.map fun p => (Sum.inr p.1, W p.1 p.2)
theorem ik_len {W : Int → α → V} {l : List (Int × α)} : (ik W l).length = l.length := List.length_map ..
theorem sk_len {W : Str → α → V} {l : List (Str × α)} : (sk W l).length = l.length := List.length_map ..
theorem valV_ik {W : Int → α → V} {l : List (Int × α)} {k : Int} : valV (ik W l) (Sum.inl k : Key) = (aget l k).map (W k) := by
  induction l with
  | nil => rfl
  | cons p r ih =>
    rw [aget_cons]
    by_cases h : p.1 = k
    · rw [if_pos h]
      show valV ((Sum.inl p.1, W p.1 p.2) :: ik W r) _ = _
      rw [valV_pos (by show (Sum.inl p.1 : Key) = _; rw [h]), h]
      rfl
    · rw [if_neg h]
      show valV ((Sum.inl p.1, W p.1 p.2) :: ik W r) _ = _
      rw [valV_neg (fun z => h (Sum.inl.inj z)), ih]
theorem valV_sk {W : Str → α → V} {l : List (Str × α)} {k : Str} : valV (sk W l) (Sum.inr k : Key) = (aget l k).map (W k) := by
  induction l with
  | nil => rfl
  | cons p r ih =>
    rw [aget_cons]
    by_cases h : p.1 = k
    · rw [if_pos h]
      show valV ((Sum.inr p.1, W p.1 p.2) :: sk W r) _ = _
      rw [valV_pos (by show (Sum.inr p.1 : Key) = _; rw [h]), h]
      rfl
    · rw [if_neg h]
      show valV ((Sum.inr p.1, W p.1 p.2) :: sk W r) _ = _
      rw [valV_neg (fun z => h (Sum.inr.inj z)), ih]
theorem ik_ext {W W' : Int → α → V} {l : List (Int × α)} (h : ∀ p ∈ l, W p.1 p.2 = W' p.1 p.2) : ik W l = ik W' l := List.map_congr_left fun p m => by rw [h p m]
theorem sk_ext {W W' : Str → α → V} {l : List (Str × α)} (h : ∀ p ∈ l, W p.1 p.2 = W' p.1 p.2) : sk W l = sk W' l := List.map_congr_left fun p m => by rw [h p m]
theorem putK_ik {W W' : Int → α → V} {l : List (Int × α)} {k : Int} {v : α} {x : V} (e : W' k v = x) (h : ∀ p ∈ l, p.1 ≠ k → W p.1 p.2 = W' p.1 p.2) : putK (ik W l) (Sum.inl k) x = ik W' (aput l k v) := by
  unfold putK
  have a : ((ik W l).any fun kv => decide (kv.1 = (Sum.inl k : Key))) = (l.any fun p => decide (p.1 = k)) := by
    unfold ik
    rw [List.any_map]
    congr 1
    funext p
    show decide ((Sum.inl p.1 : Key) = Sum.inl k) = _
    by_cases z : p.1 = k
    · simp [z]
    · rw [decide_eq_false (fun y => z (Sum.inl.inj y)), decide_eq_false z]
  rw [a]
  unfold aput
  split
  · rename_i hh
    unfold ik
    rw [List.map_map, List.map_map]
    refine List.map_congr_left fun p m => ?_
    show (if (Sum.inl p.1 : Key) = Sum.inl k then _ else _) = _
    by_cases z : p.1 = k
    · rw [if_pos (by rw [z])]
      show _ = (Sum.inl (if p.1 = k then (p.1, v) else p).1, W' (if p.1 = k then (p.1, v) else p).1 (if p.1 = k then (p.1, v) else p).2)
      rw [if_pos z, ← e, ← z]
    · rw [if_neg (fun y => z (Sum.inl.inj y))]
      show _ = (Sum.inl (if p.1 = k then (p.1, v) else p).1, W' (if p.1 = k then (p.1, v) else p).1 (if p.1 = k then (p.1, v) else p).2)
      rw [if_neg z]
      show (Sum.inl p.1, W p.1 p.2) = (Sum.inl p.1, W' p.1 p.2)
      rw [h p m z]
  · rename_i hh
    have hn : ∀ p ∈ l, p.1 ≠ k := fun p m z => hh (List.any_eq_true.mpr ⟨p, m, by simp [z]⟩)
    unfold ik
    rw [List.map_append]
    show _ = _ ++ [(Sum.inl k, W' k v)]
    rw [e]
    congr 1
    exact List.map_congr_left fun p m => by rw [h p m (hn p m)]
theorem putK_sk {W W' : Str → α → V} {l : List (Str × α)} {k : Str} {v : α} {x : V} (e : W' k v = x) (h : ∀ p ∈ l, p.1 ≠ k → W p.1 p.2 = W' p.1 p.2) : putK (sk W l) (Sum.inr k) x = sk W' (aput l k v) := by
  unfold putK
  have a : ((sk W l).any fun kv => decide (kv.1 = (Sum.inr k : Key))) = (l.any fun p => decide (p.1 = k)) := by
    unfold sk
    rw [List.any_map]
    congr 1
    funext p
    show decide ((Sum.inr p.1 : Key) = Sum.inr k) = _
    by_cases z : p.1 = k
    · simp [z]
    · rw [decide_eq_false (fun y => z (Sum.inr.inj y)), decide_eq_false z]
  rw [a]
  unfold aput
  split
  · rename_i hh
    unfold sk
    rw [List.map_map, List.map_map]
    refine List.map_congr_left fun p m => ?_
    show (if (Sum.inr p.1 : Key) = Sum.inr k then _ else _) = _
    by_cases z : p.1 = k
    · rw [if_pos (by rw [z])]
      show _ = (Sum.inr (if p.1 = k then (p.1, v) else p).1, W' (if p.1 = k then (p.1, v) else p).1 (if p.1 = k then (p.1, v) else p).2)
      rw [if_pos z, ← e, ← z]
    · rw [if_neg (fun y => z (Sum.inr.inj y))]
      show _ = (Sum.inr (if p.1 = k then (p.1, v) else p).1, W' (if p.1 = k then (p.1, v) else p).1 (if p.1 = k then (p.1, v) else p).2)
      rw [if_neg z]
      show (Sum.inr p.1, W p.1 p.2) = (Sum.inr p.1, W' p.1 p.2)
      rw [h p m z]
  · rename_i hh
    have hn : ∀ p ∈ l, p.1 ≠ k := fun p m z => hh (List.any_eq_true.mpr ⟨p, m, by simp [z]⟩)
    unfold sk
    rw [List.map_append]
    show _ = _ ++ [(Sum.inr k, W' k v)]
    rw [e]
    congr 1
    exact List.map_congr_left fun p m => by rw [h p m (hn p m)]
theorem dropK_ik {W : Int → α → V} {l : List (Int × α)} {k : Int} : dropK (ik W l) (Sum.inl k : Key) = ik W (adrop l k) := by
  unfold dropK ik adrop
  rw [List.filter_map]
  congr 1
  refine List.filter_congr fun p _ => ?_
  show decide ((Sum.inl p.1 : Key) ≠ Sum.inl k) = _
  simp
theorem dropK_sk {W : Str → α → V} {l : List (Str × α)} {k : Str} : dropK (sk W l) (Sum.inr k : Key) = sk W (adrop l k) := by
  unfold dropK sk adrop
  rw [List.filter_map]
  congr 1
  refine List.filter_congr fun p _ => ?_
  show decide ((Sum.inr p.1 : Key) ≠ Sum.inr k) = _
  simp
theorem ik_get {W : Int → α → V} {l : List (Int × α)} {i : Nat} {k : Key} {v : V} (h : (ik W l)[i]? = some (k, v)) : ∃ p, l[i]? = some p ∧ k = Sum.inl p.1 ∧ v = W p.1 p.2 := by
  unfold ik at h
  rw [List.getElem?_map] at h
  cases e : l[i]? with
  | none => rw [e] at h; cases h
  | some p => rw [e] at h; cases h; exact ⟨p, rfl, rfl, rfl⟩
theorem sk_get {W : Str → α → V} {l : List (Str × α)} {i : Nat} {k : Key} {v : V} (h : (sk W l)[i]? = some (k, v)) : ∃ p, l[i]? = some p ∧ k = Sum.inr p.1 ∧ v = W p.1 p.2 := by
  unfold sk at h
  rw [List.getElem?_map] at h
  cases e : l[i]? with
  | none => rw [e] at h; cases h
  | some p => rw [e] at h; cases h; exact ⟨p, rfl, rfl, rfl⟩
end
/-- values are ints -/
abbrev iv : Int → Int → V := fun _ v => .int v
theorem putK_iv {l : List (Int × Int)} {k v : Int} : putK (ik iv l) (Sum.inl k : Key) (.int v) = ik iv (aput l k v) := putK_ik rfl fun _ _ _ => rfl
theorem valV_iv {l : List (Int × Int)} {k v : Int} (h : aget l k = some v) : valV (ik iv l) (Sum.inl k : Key) = some (.int v) := by rw [valV_ik, h]; rfl
theorem take_succ {α : Type} {l : List α} {i : Nat} {x : α} (h : l[i]? = some x) : l.take (i + 1) = l.take i ++ [x] := by
  rw [List.take_succ, h]
  rfl

/-! ### two sorted lists with the same items are one -/
theorem perm_sorted_eq {α : Type} {le : α → α → Prop} (anti : ∀ a b, le a b → le b a → a = b) : ∀ {l m : List α}, l.Perm m → l.Pairwise le → m.Pairwise le → l = m
  | [], m, p, _, _ => (List.nil_perm.mp p).symm
  | a :: l, [], p, _, _ => absurd (List.perm_nil.mp p) (by simp)
  | a :: l, b :: m, p, h1, h2 => by
    have e : a = b := by
      have m1 : a ∈ b :: m := p.mem_iff.mp List.mem_cons_self
      have m2 : b ∈ a :: l := p.mem_iff.mpr List.mem_cons_self
      rcases List.mem_cons.mp m1 with z | z
      · exact z
      · rcases List.mem_cons.mp m2 with y | y
        · exact y.symm
        · exact anti a b ((List.pairwise_cons.mp h1).1 b y) ((List.pairwise_cons.mp h2).1 a z)
    subst e
    rw [perm_sorted_eq anti (List.perm_cons a |>.mp p) (List.pairwise_cons.mp h1).2 (List.pairwise_cons.mp h2).2]
/-- pairs of ints by Python's order -/
def pLe (a b : Int × Int) : Prop := a.1 < b.1 ∨ (a.1 = b.1 ∧ a.2 ≤ b.2)
instance (a b : Int × Int) : Decidable (pLe a b) := inferInstanceAs (Decidable (_ ∨ _))
theorem pLe_anti (a b : Int × Int) (h : pLe a b) (h' : pLe b a) : a = b := by
  obtain ⟨x, y⟩ := a
  obtain ⟨z, w⟩ := b
  unfold pLe at h h'
  simp only at h h'
  have e1 : x = z := by omega
  have e2 : y = w := by omega
  rw [e1, e2]
def sortP (l : List (Int × Int)) : List (Int × Int) := l.mergeSort fun a b => decide (pLe a b)
theorem sortP_perm (l : List (Int × Int)) : (sortP l).Perm l := List.mergeSort_perm _ _
theorem sortP_sorted (l : List (Int × Int)) : (sortP l).Pairwise pLe := by
  have h := List.pairwise_mergeSort (le := fun a b => decide (pLe a b)) (fun a b c h1 h2 => ?_) (fun a b => ?_) l
  · exact h.imp fun {a b} e => of_decide_eq_true e
  · have a1 := of_decide_eq_true h1
    have a2 := of_decide_eq_true h2
    refine decide_eq_true ?_
    unfold pLe at *
    omega
  · rw [Bool.or_eq_true, decide_eq_true_eq, decide_eq_true_eq]
    unfold pLe
    omega
theorem sortP_unique {l m : List (Int × Int)} (p : m.Perm l) (h : m.Pairwise pLe) : m = sortP l :=
  perm_sorted_eq pLe_anti (p.trans (sortP_perm l).symm) h (sortP_sorted l)
end LW

set_option maxHeartbeats 4000000
namespace LW
open PySem PySem.Spec PyProof.Rows L2
/-! ### what a value holds, by tuples -/
section
variable {α : Type}
/-- y is a tuple that holds f x -/
def IsT (f : α → List V) (H : Hp) (y : V) (x : α) : Prop := ∃ t, y = .ref t ∧ H t = some (.tup (f x))
theorem IsT.keep {f : α → List V} {H H' : Hp} {y : V} {x : α} (k : TupK H H') (h : IsT f H y x) : IsT f H' y x := let ⟨t, e, a⟩ := h; ⟨t, e, k _ _ a⟩
theorem keepT {f : α → List V} {H H' : Hp} {ys : List V} {xs : List α} (k : TupK H H') (h : Paired (IsT f H) ys xs) : Paired (IsT f H') ys xs := h.mono fun _ _ => IsT.keep k
theorem snocT {f : α → List V} {H : Hp} {ys : List V} {xs : List α} {y : V} {x : α} (h : Paired (IsT f H) ys xs) (hy : IsT f H y x) : Paired (IsT f H) (ys ++ [y]) (xs ++ [x]) := Paired.snoc h hy
theorem getT {f : α → List V} {H : Hp} : ∀ {ys : List V} {xs : List α} {i : Nat} {y : V}, Paired (IsT f H) ys xs → ys[i]? = some y → ∃ x, xs[i]? = some x ∧ IsT f H y x
  | _, _, _, _, .nil, e => by simp at e
  | _, _, 0, _, .cons a _, e => by simp at e; subst e; exact ⟨_, rfl, a⟩
  | _, _, i + 1, y, .cons a t, e => by
    obtain ⟨x, h1, h2⟩ := getT (i := i) (y := y) t (by simpa using e)
    exact ⟨x, by simpa using h1, h2⟩
theorem appT {f : α → List V} {H : Hp} : ∀ {ys zs : List V} {xs ws : List α}, Paired (IsT f H) ys xs → Paired (IsT f H) zs ws → Paired (IsT f H) (ys ++ zs) (xs ++ ws)
  | _, _, _, _, .nil, h => h
  | _, _, _, _, .cons a t, h => .cons a (appT t h)
theorem takeT {f : α → List V} {H : Hp} : ∀ {ys : List V} {xs : List α} (n : Nat), Paired (IsT f H) ys xs → Paired (IsT f H) (ys.take n) (xs.take n)
  | _, _, 0, _ => .nil
  | _, _, n + 1, .nil => .nil
  | _, _, n + 1, .cons a t => .cons a (takeT n t)
theorem dropT {f : α → List V} {H : Hp} : ∀ {ys : List V} {xs : List α} (n : Nat), Paired (IsT f H) ys xs → Paired (IsT f H) (ys.drop n) (xs.drop n)
  | _, _, 0, h => h
  | _, _, n + 1, .nil => .nil
  | _, _, n + 1, .cons a t => dropT n t
end
/-- a pair of ints -/
abbrev fP (p : Int × Int) : List V := [.int p.1, .int p.2]
abbrev IsP : Hp → V → Int × Int → Prop := IsT fP
theorem keepP {H H' : Hp} {ys : List V} {ps : List (Int × Int)} (k : TupK H H') (h : Paired (IsP H) ys ps) : Paired (IsP H') ys ps := keepT k h
def pairOf (H : Hp) : V → Int × Int
  | .ref t => match H t with
    | some (.tup [.int i, .int j]) => (i, j)
    | _ => (0, 0)
  | _ => (0, 0)
theorem isP_of {H : Hp} {y : V} {p : Int × Int} (h : IsP H y p) : pairOf H y = p := by
  obtain ⟨t, rfl, e⟩ := h
  show (match H t with
    | some (.tup [.int i, .int j]) => (i, j)
    | _ => (0, 0)) = p
  rw [e]
theorem pmapOf {H : Hp} {xs : List V} {ds : List (Int × Int)} (h : Paired (IsP H) xs ds) : xs.map (pairOf H) = ds := by
  induction h with
  | nil => rfl
  | cons a _ ih => rw [List.map_cons, isP_of a, ih]
theorem pall {α β : Type} {F : α → β → Prop} {xs : List α} {ys : List β} (h : Paired F xs ys) : ∀ x ∈ xs, ∃ y, F x y := by
  induction h with
  | nil => intro x m; cases m
  | cons a _ ih =>
    intro x m
    rcases List.mem_cons.mp m with e | e
    · exact ⟨_, e ▸ a⟩
    · exact ih x e
theorem paired_map {H : Hp} : ∀ {ys : List V}, (∀ y ∈ ys, ∃ p, IsP H y p) → Paired (IsP H) ys (ys.map (pairOf H))
  | [], _ => .nil
  | y :: ys, h => by
    obtain ⟨p, hp⟩ := h y List.mem_cons_self
    refine .cons ?_ (paired_map fun z m => h z (List.mem_cons_of_mem _ m))
    rw [isP_of hp]
    exact hp
section
variable {K : PySem.W.Frag} {H : Hp} {Q : VK}
theorem l_sortedP {F : List Addr} {H0 : Hp} {a : Addr} {xs : List V} {ds : List (Int × Int)} (r : Run F H0 H) (h : H a = some (.lst xs)) (hx : Paired (IsP H) xs ds)
    (q : ∀ p H' ys, H0 p = none → p ∉ F → H p = none → Run F H0 H' → H' p = some (.lst ys) → Same H H' → Paired (IsP H') ys (sortP ds) → Q (.ref p) H') : rSortedPO K [.ref a] H Q := by
  refine ⟨a, xs, pairOf H, rfl, SqL.of h, fun x m => ?_, fun ys p h1 h2 hp => ?_⟩
  · obtain ⟨d, t, e, z⟩ := pall hx x m
    refine ⟨t, e, ?_⟩
    rw [e, isP_of (p := d) ⟨t, rfl, z⟩]
    exact z
  · obtain ⟨r1, r2, r3⟩ := r.new (o := .lst ys) hp
    have sm : Same H (upd H p (.lst ys)) := fun a u e => by rw [upd_ne (ne_of_none e hp)]; exact e
    refine q p _ ys r2 r3 hp r1 upd_same sm ?_
    have al : ∀ y ∈ ys, ∃ d, IsP H y d := fun y m => pall hx y (h2.perm.mem_iff.mp m)
    have e : ys.map (pairOf H) = sortP ds := by
      refine sortP_unique ?_ ?_
      · rw [← pmapOf hx]
        exact h2.perm.map _
      · refine List.pairwise_map.mpr (List.Pairwise.imp (fun {x y} hxy => ?_) h1)
        have z : ¬ ((pairOf H y).1 < (pairOf H x).1 ∨ ((pairOf H y).1 = (pairOf H x).1 ∧ (pairOf H y).2 < (pairOf H x).2)) := fun w => Bool.false_ne_true (hxy.symm.trans (SrtO.lexB_iff.mpr w))
        unfold pLe
        omega
    rw [← e]
    exact keepP (fun a u => sm a _) (paired_map al)
end
end LW
namespace LW
open PySem PySem.Spec PyProof.Rows L2
section
variable {K : PySem.W.Frag} {σ : St} {H : Hp} {Q : VK} {te td : TE} {tt : TT} {α : Type}
theorem lc_keysI {d : Addr} {W : Int → α → V} {l : List (Int × α)} {j : Nat} (hd : H d = some (.dK (ik W l))) (hz : (ik W l).length < sizeLine)
    (htd : ∀ od (R : VK), R (.ref d) (upd H d (.frz od (.dK (ik W l)))) → td σ (upd H d (.frz od (.dK (ik W l)))) R)
    (P : List (Int × α) → List V → Hp → Prop) (h0 : P [] [] H) (hP : ∀ m acc H1 H2, TupK H1 H2 → P m acc H1 → P m acc H2)
    (hs : ∀ i p od acc H1 (R : VK) (R0 : Hp → Prop), l[i]? = some p → H1 d = some (.frz od (.dK (ik W l))) → (∀ a o, a ≠ d → H a = some o → H1 a = some o) → acc.length ≤ i → P (l.take i) acc H1 →
      (∀ y H4, Ext [] H1 H4 → P (l.take i ++ [p]) (acc ++ [y]) H4 → R y H4) → (∀ H3, Ext [] H1 H3 → P (l.take i ++ [p]) acc H3 → R0 H3) →
      tt (σ.set j (some (.int p.1))) H1 fun b H3 => if b = true then te (σ.set j (some (.int p.1))) H3 R else R0 H3)
    (q : ∀ D H' acc, H D = none → Ext [] H H' → H' D = some (.lst acc) → acc.length ≤ l.length → P l acc H' → Q (.ref D) H') :
    tLockE (tLc (iKeys td) (gName j) tt te [j]) σ H Q := by
  refine lc_keys hd hz htd (fun i acc H' => P (l.take i) acc H') h0 (fun i => hP _) (fun i k v od acc H1 R R0 ek hf hk hl hp q1 q0 => ?_) (fun D H' acc nD e hD lD hp => ?_)
  · obtain ⟨p, el, rfl, rfl⟩ := ik_get ek
    have e1 := take_succ el
    exact hs i p od acc H1 R R0 el hf hk hl hp (fun y H4 e4 p4 => q1 y H4 e4 (by rw [e1]; exact p4)) fun H3 e3 p3 => q0 H3 e3 (by rw [e1]; exact p3)
  · rw [ik_len] at lD hp
    rw [List.take_length] at hp
    exact q D H' acc nD e hD lD hp
theorem lc_keysS {d : Addr} {W : Str → α → V} {l : List (Str × α)} {j : Nat} (hd : H d = some (.dK (sk W l))) (hz : (sk W l).length < sizeLine)
    (htd : ∀ od (R : VK), R (.ref d) (upd H d (.frz od (.dK (sk W l)))) → td σ (upd H d (.frz od (.dK (sk W l)))) R)
    (P : List (Str × α) → List V → Hp → Prop) (h0 : P [] [] H) (hP : ∀ m acc H1 H2, TupK H1 H2 → P m acc H1 → P m acc H2)
    (hs : ∀ i p od acc H1 (R : VK) (R0 : Hp → Prop), l[i]? = some p → H1 d = some (.frz od (.dK (sk W l))) → (∀ a o, a ≠ d → H a = some o → H1 a = some o) → acc.length ≤ i → P (l.take i) acc H1 →
      (∀ y H4, Ext [] H1 H4 → P (l.take i ++ [p]) (acc ++ [y]) H4 → R y H4) → (∀ H3, Ext [] H1 H3 → P (l.take i ++ [p]) acc H3 → R0 H3) →
      tt (σ.set j (some (.str p.1))) H1 fun b H3 => if b = true then te (σ.set j (some (.str p.1))) H3 R else R0 H3)
    (q : ∀ D H' acc, H D = none → Ext [] H H' → H' D = some (.lst acc) → acc.length ≤ l.length → P l acc H' → Q (.ref D) H') :
    tLockE (tLc (iKeys td) (gName j) tt te [j]) σ H Q := by
  refine lc_keys hd hz htd (fun i acc H' => P (l.take i) acc H') h0 (fun i => hP _) (fun i k v od acc H1 R R0 ek hf hk hl hp q1 q0 => ?_) (fun D H' acc nD e hD lD hp => ?_)
  · obtain ⟨p, el, rfl, rfl⟩ := sk_get ek
    have e1 := take_succ el
    exact hs i p od acc H1 R R0 el hf hk hl hp (fun y H4 e4 p4 => q1 y H4 e4 (by rw [e1]; exact p4)) fun H3 e3 p3 => q0 H3 e3 (by rw [e1]; exact p3)
  · rw [sk_len] at lD hp
    rw [List.take_length] at hp
    exact q D H' acc nD e hD lD hp
end
theorem pmapP {H : Hp} {acc : List V} {m : List (Int × Int)} {p : Int × Int} {y : V} (h : Paired (IsP H) acc m) (hy : IsP H y p) : Paired (IsP H) (acc ++ [y]) (m ++ [p]) := Paired.snoc h hy
end LW

set_option maxHeartbeats 4000000
namespace LW
open PySem PySem.Spec PyProof.Rows L2
/-! ### built-ins by names -/
def rLenQ (K : PySem.W.Frag) : List V → Hp → VK → Prop := fun xs H Q => ∃ p ys, xs = [.ref p] ∧ (SqL K H p ys ∨ SqT K H p ys) ∧ Q (.int ys.length) H
def rLenX : List V → Hp → VK → Prop := fun xs H Q => ∃ z, xs = [.str z] ∧ z.length ≤ sizeLine ∧ Q (.int z.length) H
def rListQ (K : PySem.W.Frag) : List V → Hp → VK → Prop := fun xs H Q => ∃ p ys, xs = [.ref p] ∧ (SqL K H p ys ∨ SqT K H p ys) ∧ ∀ l, H l = none → Q (.ref l) (upd H l (.lst ys))
section
variable {X : Cx}
theorem oLen : CallR X (.builtin "len") (rLenQ X.K) := call_len_seq
theorem oLenX : CallR X (.builtin "len") rLenX := call_len_str
theorem oList : CallR X (.type "list") (rListQ X.K) := call_list_of
end
/-! ### data -/
/-- what == sees of a plain value -/
def toD : V → PyData
  | .bl b => .bool b
  | .int i => .int i
  | .str x => .str x
  | _ => .none
def plainV : V → Bool
  | .non => true | .bl _ => true | .int _ => true | .str x => PyData.strOk x
  | _ => false
/-- None, a truth value, an int, a text -/
def simpV : V → Bool
  | .non => true | .bl _ => true | .int _ => true | .str _ => true
  | _ => false
section
variable {K : PySem.W.Frag} {H : Hp} {Q : VK} {α : Type} {f : α → List V}
theorem dp_plain {v : V} (h : plainV v = true) : Dp K H v (toD v) := by
  cases v with
  | non => exact .non
  | bl b => exact .bl b
  | int i => exact .int i
  | str x => exact .str x
  | _ => cases h
theorem dp_plains : ∀ {vs : List V}, vs.all plainV = true → DpAll K H vs (vs.map toD)
  | [], _ => .nil
  | v :: vs, h => by
    rw [List.all_cons, Bool.and_eq_true] at h
    exact .cons (dp_plain h.1) (dp_plains h.2)
theorem dp_tup {y : V} {x : α} (hf : (f x).all plainV = true) (h : IsT f H y x) : Dp K H y (.tuple ((f x).map toD)) := by
  obtain ⟨t, rfl, e⟩ := h
  exact .tup (SqT.of e) (dp_plains hf)
theorem dp_tups (hf : ∀ x, (f x).all plainV = true) {ys : List V} {xs : List α} (h : Paired (IsT f H) ys xs) : DpAll K H ys (xs.map fun x => .tuple ((f x).map toD)) := by
  induction h with
  | nil => exact .nil
  | cons a _ ih => exact .cons (dp_tup (hf _) a) ih
theorem lay_plain : ∀ {v : V}, plainV v = true → (toD v).canLay0 = true ∧ (toD v).depth ≤ 1
  | .non, _ => by constructor <;> simp [toD, PyData.canLay0, PyData.depth]
  | .bl _, _ => by constructor <;> simp [toD, PyData.canLay0, PyData.depth]
  | .int _, _ => by constructor <;> simp [toD, PyData.canLay0, PyData.depth]
  | .str x, h => by
    have h' : PyData.strOk x = true := h
    constructor <;> simp [toD, PyData.canLay0, PyData.depth, h']
  | .byt _, h => by cases h
  | .flt _, h => by cases h
  | .ref _, h => by cases h
  | .ty _, h => by cases h
theorem lay_plains : ∀ {vs : List V}, vs.all plainV = true → PyData.canLayAll0 (vs.map toD) = true ∧ PyData.depthAll (vs.map toD) ≤ 1
  | [], _ => by constructor <;> simp [PyData.canLayAll0, PyData.depthAll]
  | v :: vs, h => by
    rw [List.all_cons, Bool.and_eq_true] at h
    obtain ⟨a, b⟩ := lay_plain h.1
    obtain ⟨c, d⟩ := lay_plains h.2
    constructor
    · simp [PyData.canLayAll0, a, c]
    · simp [PyData.depthAll]; omega
theorem lay_tups (hf : ∀ x, (f x).all plainV = true) : ∀ xs : List α, PyData.canLayAll0 (xs.map fun x => .tuple ((f x).map toD)) = true ∧ PyData.depthAll (xs.map fun x => .tuple ((f x).map toD)) ≤ 2
  | [] => by constructor <;> simp [PyData.canLayAll0, PyData.depthAll]
  | x :: xs => by
    obtain ⟨a, b⟩ := lay_plains (hf x)
    obtain ⟨c, d⟩ := lay_tups hf xs
    constructor
    · simp [PyData.canLayAll0, PyData.canLay0, a, c]
    · simp [PyData.depthAll, PyData.depth]; omega
theorem shaped_tups (hf : ∀ x, (f x).all plainV = true) (xs : List α) : SeqAt.shaped (.list (xs.map fun x => .tuple ((f x).map toD))) = true := by
  obtain ⟨a, b⟩ := lay_tups hf xs
  unfold SeqAt.shaped
  rw [Bool.and_eq_true, decide_eq_true_eq]
  constructor
  · simpa [PyData.canLay0] using a
  · simp [PyData.depth]; omega
theorem shaped_plain {v : V} (h : plainV v = true) : SeqAt.shaped (toD v) = true := by
  obtain ⟨a, b⟩ := lay_plain h
  unfold SeqAt.shaped
  rw [Bool.and_eq_true, decide_eq_true_eq]
  exact ⟨a, by omega⟩
theorem shaped_lay {d : PyData} (h : SeqAt.shaped d = true) : d.canLay0 = true := SeqAt.canLay_of_shaped h
/-- two lists of the same tuples are equal -/
theorem l_eqT {a b : Addr} {xs ys : List V} {ds : List α} (hf : ∀ x, (f x).all plainV = true) (ha : SqL K H a xs) (hb : SqL K H b ys) (h1 : Paired (IsT f H) xs ds) (h2 : Paired (IsT f H) ys ds) (q : Q (.bl true) H) :
    rEqD K (.ref a) (.ref b) H Q := ⟨_, _, .lst ha (dp_tups hf h1), .lst hb (dp_tups hf h2), shaped_tups hf ds, shaped_tups hf ds, by rw [SeqAt.eqv_refl _ (shaped_lay (shaped_tups hf ds))]; exact q⟩
theorem eqv_plain : ∀ {x y : V}, plainV x = true → plainV y = true → (∀ b, x ≠ .bl b) → (∀ b, y ≠ .bl b) → PyData.eqv (toD x) (toD y) = decide (x = y)
  | .non, .non, _, _, _, _ => by simp [toD, PyData.eqv]
  | .non, .int _, _, _, _, _ => by simp [toD, PyData.eqv]
  | .non, .str _, _, _, _, _ => by simp [toD, PyData.eqv]
  | .int _, .non, _, _, _, _ => by simp [toD, PyData.eqv]
  | .int i, .int j, _, _, _, _ => by simp [toD, PyData.eqv, Bool.beq_eq_decide_eq]
  | .int _, .str _, _, _, _, _ => by simp [toD, PyData.eqv]
  | .str _, .non, _, _, _, _ => by simp [toD, PyData.eqv]
  | .str _, .int _, _, _, _, _ => by simp [toD, PyData.eqv]
  | .str i, .str j, _, _, _, _ => by simp [toD, PyData.eqv, Bool.beq_eq_decide_eq]
  | .bl b, _, _, _, h, _ => absurd rfl (h b)
  | .non, .bl b, _, _, _, h => absurd rfl (h b)
  | .int _, .bl b, _, _, _, h => absurd rfl (h b)
  | .str _, .bl b, _, _, _, h => absurd rfl (h b)
  | .byt _, _, h, _, _, _ => by cases h
  | .flt _, _, h, _, _, _ => by cases h
  | .ref _, _, h, _, _, _ => by cases h
  | .ty _, _, h, _, _, _ => by cases h
  | .non, .byt _, _, h, _, _ => by cases h
  | .non, .flt _, _, h, _, _ => by cases h
  | .non, .ref _, _, h, _, _ => by cases h
  | .non, .ty _, _, h, _, _ => by cases h
  | .int _, .byt _, _, h, _, _ => by cases h
  | .int _, .flt _, _, h, _, _ => by cases h
  | .int _, .ref _, _, h, _, _ => by cases h
  | .int _, .ty _, _, h, _, _ => by cases h
  | .str _, .byt _, _, h, _, _ => by cases h
  | .str _, .flt _, _, h, _, _ => by cases h
  | .str _, .ref _, _, h, _, _ => by cases h
  | .str _, .ty _, _, h, _, _ => by cases h
/-- two plain values (no truth values) -/
theorem l_eqV {x y : V} (hx : plainV x = true) (hy : plainV y = true) (hb : ∀ b, x ≠ .bl b) (hb2 : ∀ b, y ≠ .bl b) (q : Q (.bl (decide (x = y))) H) : rEqD K x y H Q :=
  ⟨_, _, dp_plain hx, dp_plain hy, shaped_plain hx, shaped_plain hy, by rw [eqv_plain hx hy hb hb2]; exact q⟩
theorem l_neV {x y : V} (hx : plainV x = true) (hy : plainV y = true) (hb : ∀ b, x ≠ .bl b) (hb2 : ∀ b, y ≠ .bl b) (q : Q (.bl (!decide (x = y))) H) : rNeD K x y H Q :=
  ⟨_, _, dp_plain hx, dp_plain hy, shaped_plain hx, shaped_plain hy, by rw [eqv_plain hx hy hb hb2]; exact q⟩
theorem shaped_nil : SeqAt.shaped (.list []) = true := by decide +kernel
theorem eqv_nil (ds : List PyData) : PyData.eqv (.list ds) (.list []) = ds.isEmpty := by
  cases ds <;> simp [PyData.eqv, PyData.eqvAll]
/-- a list of tuples against [] -/
theorem l_neT0 {a b : Addr} {xs : List V} {ds : List α} (hf : ∀ x, (f x).all plainV = true) (ha : SqL K H a xs) (hb : SqL K H b []) (h1 : Paired (IsT f H) xs ds) (q : Q (.bl (!ds.isEmpty)) H) : rNeD K (.ref a) (.ref b) H Q :=
  ⟨_, _, .lst ha (dp_tups hf h1), .lst hb .nil, shaped_tups hf ds, shaped_nil, by rw [eqv_nil]; simpa using q⟩
theorem l_eqT0 {a b : Addr} {xs : List V} {ds : List α} (hf : ∀ x, (f x).all plainV = true) (ha : SqL K H a xs) (hb : SqL K H b []) (h1 : Paired (IsT f H) xs ds) (q : Q (.bl ds.isEmpty) H) : rEqD K (.ref a) (.ref b) H Q :=
  ⟨_, _, .lst ha (dp_tups hf h1), .lst hb .nil, shaped_tups hf ds, shaped_nil, by rw [eqv_nil]; simpa using q⟩
/-- [] against [] -/
theorem l_neN {a b : Addr} (ha : SqL K H a []) (hb : SqL K H b []) (q : Q (.bl false) H) : rNeD K (.ref a) (.ref b) H Q :=
  ⟨_, _, .lst ha .nil, .lst hb .nil, shaped_nil, shaped_nil, by rw [eqv_nil]; exact q⟩
/-- lists of texts -/
theorem l_eqTx {a b : Addr} {xs ys : List Str} (ox : ∀ x ∈ xs, PyData.strOk x = true) (oy : ∀ x ∈ ys, PyData.strOk x = true) (ha : SqL K H a (xs.map V.str)) (hb : SqL K H b (ys.map V.str)) (q : Q (.bl (decide (xs = ys))) H) : rEqD K (.ref a) (.ref b) H Q := by
  have al : ∀ l : List Str, (∀ x ∈ l, PyData.strOk x = true) → (l.map V.str).all plainV = true := fun l h => by
    rw [List.all_eq_true]
    intro v m
    obtain ⟨x, mx, rfl⟩ := List.mem_map.mp m
    exact h x mx
  have sh : ∀ l : List Str, (∀ x ∈ l, PyData.strOk x = true) → SeqAt.shaped (.list ((l.map V.str).map toD)) = true := fun l h => by
    obtain ⟨a, b⟩ := lay_plains (al l h)
    unfold SeqAt.shaped
    rw [Bool.and_eq_true, decide_eq_true_eq]
    constructor
    · simpa [PyData.canLay0] using a
    · simp only [PyData.depth]; omega
  refine ⟨_, _, .lst ha (dp_plains (al xs ox)), .lst hb (dp_plains (al ys oy)), sh xs ox, sh ys oy, ?_⟩
  have e : PyData.eqv (.list ((xs.map V.str).map toD)) (.list ((ys.map V.str).map toD)) = decide (xs = ys) := by
    rw [PyData.eqv]
    clear ha hb q ox oy
    induction xs generalizing ys with
    | nil => cases ys <;> simp [PyData.eqvAll]
    | cons x xs ih =>
      cases ys with
      | nil => simp [PyData.eqvAll]
      | cons y ys =>
        simp only [List.map_cons, PyData.eqvAll, toD, PyData.eqv] at ih ⊢
        rw [ih]
        by_cases h1 : x = y <;> by_cases h2 : xs = ys <;> simp [h1, h2]
  rw [e]
  exact q

/-! ### isinstance -/
def isI : V → Bool
  | .int _ => true
  | _ => false
def isS : V → Bool
  | .str _ => true
  | _ => false
def isB : V → Bool
  | .bl _ => true
  | _ => false
theorem l_isiI {v : V} (h : simpV v = true) (q : Q (.bl (isI v || isB v)) H) : rIsi K [v, .ty "int"] H Q := by
  cases v with
  | non => exact ⟨_, _, _, _, false, rfl, .ty _, .base .non, kit_ty (by decide +kernel), q⟩
  | bl b => exact ⟨_, _, _, _, true, rfl, .ty _, .base (.bl b), kit_ty (by decide +kernel), q⟩
  | int i => exact ⟨_, _, _, _, true, rfl, .ty _, .base (.int i), kit_ty (by decide +kernel), q⟩
  | str x => exact ⟨_, _, _, _, false, rfl, .ty _, .base (.str x), kit_ty (by decide +kernel), q⟩
  | _ => cases h
theorem l_isiB {v : V} (h : simpV v = true) (q : Q (.bl (isB v)) H) : rIsi K [v, .ty "bool"] H Q := by
  cases v with
  | non => exact ⟨_, _, _, _, false, rfl, .ty _, .base .non, kit_ty (by decide +kernel), q⟩
  | bl b => exact ⟨_, _, _, _, true, rfl, .ty _, .base (.bl b), kit_ty (by decide +kernel), q⟩
  | int i => exact ⟨_, _, _, _, false, rfl, .ty _, .base (.int i), kit_ty (by decide +kernel), q⟩
  | str x => exact ⟨_, _, _, _, false, rfl, .ty _, .base (.str x), kit_ty (by decide +kernel), q⟩
  | _ => cases h
theorem l_isiS {v : V} (h : simpV v = true) (q : Q (.bl (isS v)) H) : rIsi K [v, .ty "str"] H Q := by
  cases v with
  | non => exact ⟨_, _, _, _, false, rfl, .ty _, .base .non, kit_ty (by decide +kernel), q⟩
  | bl b => exact ⟨_, _, _, _, false, rfl, .ty _, .base (.bl b), kit_ty (by decide +kernel), q⟩
  | int i => exact ⟨_, _, _, _, false, rfl, .ty _, .base (.int i), kit_ty (by decide +kernel), q⟩
  | str x => exact ⟨_, _, _, _, true, rfl, .ty _, .base (.str x), kit_ty (by decide +kernel), q⟩
  | _ => cases h
theorem l_isiL {a : Addr} {xs : List V} (h : H a = some (.lst xs)) (q : Q (.bl true) H) : rIsi K [.ref a, .ty "list"] H Q := ⟨_, _, _, _, true, rfl, .ty _, .base (.lst h), kit_ty (by decide +kernel), q⟩
theorem l_isiT {a : Addr} {xs : List V} (h : H a = some (.tup xs)) (q : Q (.bl true) H) : rIsi K [.ref a, .ty "tuple"] H Q := ⟨_, _, _, _, true, rfl, .ty _, .base (.tup h), kit_ty (by decide +kernel), q⟩

/-! ### displays of dicts -/
def LDisp (p : Addr) (ps : List (V × V)) (H : Hp) (Q : VK) : Prop := H p = some (.dK []) ∧ ∃ kvs : List (Key × V), ps = kvs.map (fun kv => (kV kv.1, kv.2)) ∧ kvs.length ≤ 15 ∧ Q (.ref p) (upd H p (.dK (mergeK [] kvs)))
variable {σ : St} {trs : List (TE × TE)} {tk tv : TE} {R : List (V × V) → Hp → Prop}
theorem k_disp {F : List Addr} {H0 : Hp} (r : Run F H0 H) (q : ∀ p H', H0 p = none → p ∉ F → H p = none → Run F H0 H' → H' p = some (.dK []) → Same H H' → tPairs trs σ H' fun ps H2 => LDisp p ps H2 Q) :
    tDisp trs σ H Q := fun p hp =>
  let ⟨r1, r2, r3⟩ := r.new hp
  q p _ r2 r3 hp r1 upd_same (fun a u e => by rw [upd_ne (ne_of_none e hp)]; exact e)
theorem k_pnil (q : R [] H) : tPairs [] σ H R := q
theorem k_pcons (q : tk σ H fun x H1 => tv σ H1 fun y H2 => tPairs trs σ H2 fun ps H3 => R ((x, y) :: ps) H3) : tPairs ((tk, tv) :: trs) σ H R := q
def keyOf : V × V → Key × V
  | (.str s, v) => (.inr s, v)
  | (.int i, v) => (.inl i, v)
  | (_, v) => (.inl 0, v)
theorem l_disp {F : List Addr} {H0 : Hp} {p : Addr} {ps : List (V × V)} {kvs : List (Key × V)} (r : Run F H0 H) (h : H p = some (.dK [])) (e : ps = (ps.map keyOf).map (fun kv => (kV kv.1, kv.2))) (z : (ps.map keyOf).length ≤ 15) (e2 : mergeK [] (ps.map keyOf) = kvs) (w : p ∈ F ∨ H0 p = none)
    (q : ∀ H', Run F H0 H' → H' p = some (.dK kvs) → (∀ b, b ≠ p → H' b = H b) → Q (.ref p) H') : LDisp p ps H Q :=
  ⟨h, _, e, z, by rw [e2]; exact q _ (r.wr h (by intro _ z; cases z) w) upd_same fun b n => upd_ne n⟩
-- len, list methods
theorem l_lenL {a : Addr} {xs : List V} (h : SqL K H a xs) (q : Q (.int xs.length) H) : rLenQ K [.ref a] H Q := ⟨a, _, rfl, .inl h, q⟩
theorem l_lenT {a : Addr} {xs : List V} (h : SqT K H a xs) (q : Q (.int xs.length) H) : rLenQ K [.ref a] H Q := ⟨a, _, rfl, .inr h, q⟩
theorem l_lenX {z : Str} (h : z.length ≤ sizeLine) (q : Q (.int z.length) H) : rLenX [.str z] H Q := ⟨z, rfl, h, q⟩
theorem l_listL {a : Addr} {xs : List V} (h : SqL K H a xs) (q : LNew (.lst xs) H Q) : rListQ K [.ref a] H Q := ⟨a, _, rfl, .inl h, q⟩
theorem l_listT {a : Addr} {xs : List V} (h : SqT K H a xs) (q : LNew (.lst xs) H Q) : rListQ K [.ref a] H Q := ⟨a, _, rfl, .inr h, q⟩
end

/-! ### the end -/
theorem fn_out {P : Program} {w : World} {K : PySem.W.Frag} {mg : Str → Option Value} {base : Heap} {k : Nat} {f : Addr} {fd : FuncData} {ps : List Str} {sp : Sp} (F : FnOk P w K mg base (L2N.CX P w) k f fd ps sp)
    (h : ∀ vs H Q E, sp vs H Q E → sp vs H Q fun _ _ _ => False) : FnOk P w K mg base CX0 k f fd ps sp := by
  refine ⟨F.len, fun A outer s H args us vs Q E hr e0 hb r hs => ?_⟩
  refine codeAny_mono (F.run A outer s H args us vs Q (fun _ _ _ => False) hr e0 hb r (h _ _ _ _ hs)) fun res s' hq => ?_
  match res, hq with
  | .error e, hq =>
    obtain ⟨_, _, _, _, _, _, _, _, _, _, _, _, z⟩ := hq
    exact z.elim
  | .ok v, hq => cases v <;> exact hq
end LW
namespace LW
open PySem PySem.Spec PyProof.Rows L2
/-! ### items by their places -/
theorem atI_of {α : Type} {xs : List α} {n : Int} {v : α} (h : 0 ≤ n) (e : xs[n.toNat]? = some v) : atI xs n = some v := by
  obtain ⟨m, rfl⟩ := Int.eq_ofNat_of_zero_le h
  have hm : m < xs.length := by
    rcases Nat.lt_or_ge m xs.length with z | z
    · exact z
    · rw [show ((m : Int)).toNat = m from rfl, List.getElem?_eq_none z] at e
      cases e
  unfold atI ixN
  rw [if_pos h, if_pos (by omega)]
  exact e
theorem atI_map {α : Type} {f : α → V} {xs : List α} {n : Int} {d : α} (h : 0 ≤ n) (l : n < xs.length) : atI (xs.map f) n = some (f (xs.getD n.toNat d)) := by
  refine atI_of h ?_
  have hm : n.toNat < xs.length := by omega
  rw [List.getElem?_map, List.getD_eq_getElem?_getD, List.getElem?_eq_getElem hm]
  rfl
end LW

set_option maxHeartbeats 4000000
namespace LW
open PySem PySem.Spec PyProof.Rows L2
/-! ### the suite that tells a refusal by its class's word -/
theorem l_catch {K : PySem.W.Frag} {iw ie : Nat} {words : List Str} {D0 : Str} {spo : SpE} {a : Addr} {c : Value} {d : Option Addr} {as : TA} {nx bk ct : St → Hp → Prop} {rt : VK} {σ : St} {H : Hp}
    (hm : D0 ∈ words) (ok : ∀ x ∈ words, PyData.strOk x = true) (hz : words.length ≤ 1000) (has : ∀ S : List V → Hp → Prop, S (words.map V.str) H → as σ H S) (he : σ[ie]? = some (some (.ref a))) (hne : iw ≠ ie) (hl : iw < σ.length)
    (hsp : ∀ word H (Q : VK), PyData.strOk word = true → (∀ H', Ext [] H H' → Q (.bl (decide (D0 = word))) H') → spo a c d [.ref a, .str word] H Q E0) (q : ∀ H', Ext [] H H' → rt (.str D0) H') :
    tForN (iList K (tLst as)) (gName iw) (tIfS (tB (tCallE spo a c d (tCons (tVar ie) (tCons (tVar iw) tNil)))) (tRet (tVar iw)) tNext) ⟨nx, rt, bk, ct⟩ σ H := by
  unfold tForN iList
  refine k_lst (has _ (l_lst (by rw [List.length_map]; exact hz) (l_new (Run.start (F := []) Live.nil) fun l H1 f1 f2 f3 r1 h1 s1 => ?_)))
  refine ⟨l, rfl, ⟨_, SqL.of h1⟩, ?_⟩
  refine forN_list (K := K) (a := l) (xs := words.map V.str) (fun i σ' H' => (∀ j, j < i → words[j]? ≠ some D0) ∧ σ'[ie]? = some (some (.ref a)) ∧ σ'.length = σ.length ∧ Ext [] H1 H') ⟨fun j h => by omega, he, rfl, Ext.refl _ _⟩
    (fun i σ' H' p => SqL.of (p.2.2.2.keep _ _ h1 (by simp))) (fun i σ' H' p => ?_) (fun i x σ' H' ex p => ?_)
  · rw [List.length_map]
    rcases Nat.lt_or_ge i words.length with z | z
    · exact z
    · obtain ⟨j, hj, e⟩ := List.mem_iff_getElem.mp hm
      exact absurd (show words[j]? = some D0 by rw [List.getElem?_eq_getElem hj, e]) (p.1 j (by omega))
  · obtain ⟨p1, p2, p3, p4⟩ := p
    rw [List.getElem?_map] at ex
    cases ew : words[i]? with
    | none => rw [ew] at ex; cases ex
    | some wd =>
      rw [ew] at ex
      obtain rfl : V.str wd = x := Option.some.inj ex
      have okw : PyData.strOk wd = true := ok wd (List.mem_of_getElem? ew)
      refine g_name (k_ifS (k_B (k_callE (k_cons (k_var (v := .ref a) (by rw [List.getElem?_set_ne hne]; exact p2) (k_cons (k_var (v := .str wd) (by rw [List.getElem?_set_self (by omega)]) (k_nil ?_))))))))
      refine hsp wd H' _ okw fun H2 e2 => k_bl (k_ifd (fun cc => ?_) fun cc => ?_)
      · refine k_ret (k_var (v := .str wd) (by rw [List.getElem?_set_self (by omega)]) ?_)
        subst cc
        exact q _ (Ext.trans r1.ext (Ext.trans p4 e2))
      · refine k_next ⟨fun j hj e => ?_, by rw [List.getElem?_set_ne hne]; exact p2, by rw [List.length_set]; exact p3, p4.trans e2⟩
        rcases Nat.lt_or_ge j i with z | z
        · exact p1 j z e
        · have : j = i := by omega
          subst this
          rw [ew] at e
          exact cc (Option.some.inj e).symm
end LW
namespace LW
open PySem PySem.Spec PyProof.Rows L2
theorem l_wAs {K : PySem.W.Frag} {c : Value} {i : Nat} {ts : Addr → Value → Option Addr → TS} {Wout : WX} {nx bk ct : St → Hp → Prop} {rt : VK} {σ : St} {cls : Value} {d : Option Addr} {H : Hp} (h : PySem.W.exmOne K cls c = some true)
    (q : ∀ a, H a = none → ts a cls d ⟨fun σ' H' => nx (σ'.set i none) H', rt, fun σ' H' => bk (σ'.set i none) H', fun σ' H' => ct (σ'.set i none) H'⟩ (σ.set i (some (.ref a))) H) : WE (wAs K c i ts Wout ⟨nx, rt, bk, ct⟩) σ cls d H :=
  ⟨true, h, fun _ => q, fun z => by cases z⟩
end LW
namespace LW
open PySem PySem.Spec PyProof.Rows L2
section
variable {K : PySem.W.Frag} {nx bk ct : St → Hp → Prop} {rt : VK} {σ : St} {H : Hp} {Q : VK} {ta : TE}
theorem k_ntt {A B : Prop} (h : B) : if (!true) = true then A else B := h
theorem k_ntf {A B : Prop} (h : A) : if (!false) = true then A else B := h
theorem k_clear (h : ta σ H fun x H1 => tyV K "list" x H1 ∧ rClear x [] H1 Q) : tBM0 K "list" rClear ta σ H Q := h
theorem l_clear {F : List Addr} {H0 : Hp} {a : Addr} {xs : List V} (r : Run F H0 H) (h : H a = some (.lst xs)) (w : a ∈ F ∨ H0 a = none)
    (q : ∀ H', Run F H0 H' → H' a = some (.lst []) → (∀ b, b ≠ a → H' b = H b) → Q .non H') : rClear (.ref a) [] H Q :=
  ⟨a, xs, rfl, rfl, h, q _ (r.wr h (by intro _ z; cases z) w) upd_same fun b n => upd_ne n⟩
end
end LW
namespace LW
open PySem PySem.Spec PyProof.Rows L2
theorem Run.seq {K : PySem.W.Frag} {H0 H : Hp} {a : Addr} {xs : List V} (r : Run [] H0 H) (h : SqL K H0 a xs) : SqL K H a xs := r.ext.seqL (by simp) h
/-- several ways that go on alike -/
theorem lets {α β : Type} {p : Prop} (G : α → β → Prop) (Pre : α → β → Prop) (main : (∀ n h, Pre n h → G n h) → p) (key : ∀ n h, Pre n h → G n h) : p := main key
end LW

set_option maxHeartbeats 4000000
namespace LW
open PySem PySem.Spec PyProof.Rows L2
/-! ### texts -/
theorem str_ext {a b : Str} (h : a.cps.toList = b.cps.toList) : a = b := by
  cases a with
  | mk x =>
    cases b with
    | mk y => exact congrArg Str.mk (Array.toList_inj.mp h)
theorem len_toList (a : Str) : a.cps.toList.length = a.length := by rw [Array.length_toList]; rfl
/-- x begins with y -/
def begins (x y : Str) : Bool := decide (x.cps.toList.take y.length = y.cps.toList)
theorem cut_begin (x y : Str) : decide (cutS x none (some (y.length : Int)) = y) = begins x y := by
  unfold begins cutS
  rw [HT.sIx_none, HT.sIx_nat]
  have e : ((x.cps.toList.drop 0).take (min y.length x.length - 0)) = x.cps.toList.take y.length := by
    rw [List.drop_zero, Nat.sub_zero]
    rcases Nat.le_total y.length x.length with h | h
    · rw [Nat.min_eq_left h]
    · rw [Nat.min_eq_right h, List.take_of_length_le (by rw [len_toList]; omega), List.take_of_length_le (by rw [len_toList]; omega)]
  rw [e]
  refine decide_eq_decide.mpr ⟨fun h => ?_, fun h => str_ext h⟩
  exact congrArg (fun z : Str => z.cps.toList) h
theorem startswith_begin (x y : Str) : Txt.startswith x y = begins x y := by
  unfold begins Txt.startswith
  rw [StrLaws.subAt_eq, List.drop_zero]
  by_cases h : x.cps.toList.take y.length = y.cps.toList
  · have l : y.length ≤ x.length := by
      have := congrArg List.length h
      rw [List.length_take, len_toList, len_toList] at this
      omega
    simp [h, l]
  · simp [h]
theorem begins_empty (x : Str) : begins x Str.empty = true := by
  unfold begins
  exact decide_eq_true rfl
end LW
namespace LW
open PySem PySem.Spec PyProof.Rows L2
theorem all_toList (a : Str) : PyData.strOk a = a.cps.toList.all (· < 0x110000) := by
  show a.cps.all (· < 0x110000) = _
  rw [Array.all_toList]
theorem ok_append {a b : Str} (ha : PyData.strOk a = true) (hb : PyData.strOk b = true) : PyData.strOk (a ++ b) = true := by
  rw [all_toList] at *
  show ((a.cps ++ b.cps).toList).all _ = true
  rw [Array.toList_append, List.all_append, ha, hb]; rfl
theorem ok_cut {a : Str} {lo hi : Option Int} (ha : PyData.strOk a = true) : PyData.strOk (cutS a lo hi) = true := by
  rw [all_toList, List.all_eq_true] at *
  intro x hx
  exact ha x (List.mem_of_mem_drop (List.mem_of_mem_take hx))
theorem fold_ok : ∀ (r : List Str) (acc : Array Nat), (∀ y ∈ r, PyData.strOk y = true) → acc.toList.all (· < 0x110000) = true → (r.foldl (fun acc p => acc ++ Str.empty.cps ++ p.cps) acc).toList.all (· < 0x110000) = true
  | [], acc, _, h => h
  | p :: r, acc, hr, h => by
    rw [List.foldl_cons]
    refine fold_ok r _ (fun y m => hr y (List.mem_cons_of_mem _ m)) ?_
    have := hr p List.mem_cons_self
    rw [all_toList] at this
    rw [Array.toList_append, Array.toList_append, List.all_append, List.all_append, h, this]
    rfl
theorem ok_join {ys : List Str} (h : ∀ y ∈ ys, PyData.strOk y = true) : PyData.strOk (Txt.join Str.empty ys) = true := by
  rw [all_toList]
  show ((ys.drop 1).foldl (fun acc p => acc ++ Str.empty.cps ++ p.cps) (ys.headD Str.empty).cps).toList.all _ = true
  cases ys with
  | nil => rfl
  | cons y r =>
    refine fold_ok r _ (fun z m => h z (List.mem_cons_of_mem _ m)) ?_
    have := h y List.mem_cons_self
    rw [all_toList] at this
    exact this
theorem fold_len : ∀ (r : List Str) (acc : Array Nat), (r.foldl (fun acc p => acc ++ Str.empty.cps ++ p.cps) acc).size = acc.size + (r.map (·.length)).sum
  | [], acc => by simp
  | p :: r, acc => by
    rw [List.foldl_cons, fold_len r, Array.size_append, Array.size_append, List.map_cons, List.sum_cons]
    have e1 : Str.empty.cps.size = 0 := rfl
    have e2 : p.length = p.cps.size := rfl
    omega
theorem join_len (ys : List Str) : (Txt.join Str.empty ys).length = (ys.map (·.length)).sum := by
  show ((ys.drop 1).foldl (fun acc p => acc ++ Str.empty.cps ++ p.cps) (ys.headD Str.empty).cps).size = _
  cases ys with
  | nil => rfl
  | cons y r =>
    show (r.foldl (fun acc p => acc ++ Str.empty.cps ++ p.cps) y.cps).size = _
    rw [fold_len]
    rfl
end LW

set_option maxHeartbeats 4000000
namespace LW
open PySem PySem.Spec PyProof.Rows L2
/-! ### comprehensions over lists and ranges -/
section
variable {K : PySem.W.Frag} {σ : St} {H : Hp} {Q : VK} {te tl : TE} {tt : TT} {g : TG} {vs : List Nat} {ta : TA}
/-- the turns of a comprehension over J -/
def LTurns (J : It) (g : TG) (tt : TT) (te : TE) (vs : List Nat) (σ : St) (H : Hp) (Q : VK) : Prop := ∀ D, H D = none → ∃ W : Nat → Nat → Hp → Prop, (∃ m, W 0 m (upd H D (.lst []))) ∧ ∀ i m H, W i m H →
  (J.stop i H ∧ Q (.ref D) H) ∨ (J.go i H ∧ ∃ Nx : Hp → Prop, (∀ H', Nx H' → ∃ m', m' < m ∧ W (i + 1) m' H') ∧ ∀ x H', J.yld i H x H' → g x (wipe σ vs) H' fun σ2 H2 => wipe σ2 vs = wipe σ vs ∧ tt σ2 H2 fun b H3 =>
    if b = true then te σ2 H3 fun y H4 => ∃ acc, H4 D = some (.lst acc) ∧ acc.length < sizeLine ∧ Nx (upd H4 D (.lst (acc ++ [y]))) else Nx H3)
def LLc (K : PySem.W.Frag) (g : TG) (tt : TT) (te : TE) (vs : List Nat) (σ : St) (x : V) (H : Hp) (Q : VK) : Prop := ∃ a, x = .ref a ∧ (∃ xs, SqL K H a xs) ∧ LTurns (Itl K a) g tt te vs σ H Q
theorem k_lcL (h : tl σ H fun x H1 => LLc K g tt te vs σ x H1 Q) : tLc (iList K tl) g tt te vs σ H Q := h
def LLr (g : TG) (tt : TT) (te : TE) (vs : List Nat) (σ : St) (as : List V) (H : Hp) (Q : VK) : Prop := ∃ j : Int, as = [.int j] ∧ -(2 ^ 62) ≤ j ∧ j < 2 ^ 62 ∧ LTurns (Itr 0 j.toNat) g tt te vs σ H Q
theorem k_lcR (h : ta σ H fun as H1 => LLr g tt te vs σ as H1 Q) : tLc (iRng1 ta) g tt te vs σ H Q := h
/-- n turns, the i-th one over f i, the heap kept by the turn -/
theorem turns_by {J : It} {n : Nat} {f : Nat → V} (hz : n < sizeLine)
    (jg : ∀ i H1, Ext [] H H1 → i < n → J.go i H1) (js : ∀ H1, Ext [] H H1 → J.stop n H1) (jy : ∀ i H1 x H', Ext [] H H1 → i < n → J.yld i H1 x H' → H' = H1 ∧ x = f i)
    (S : V → St → St) (hg : ∀ x H1 (R : St → Hp → Prop), R (S x σ) H1 → g x (wipe σ vs) H1 fun σ2 H2 => wipe σ2 vs = wipe σ vs ∧ R σ2 H2)
    (P : Nat → List V → Hp → Prop) (h0 : P 0 [] H) (hP : ∀ i acc H1 H2, TupK H1 H2 → P i acc H1 → P i acc H2)
    (hs : ∀ i acc H1 (R : VK) (R0 : Hp → Prop), i < n → Ext [] H H1 → acc.length ≤ i → P i acc H1 →
      (∀ y H4, Ext [] H1 H4 → P (i + 1) (acc ++ [y]) H4 → R y H4) → (∀ H3, Ext [] H1 H3 → P (i + 1) acc H3 → R0 H3) →
      tt (S (f i) σ) H1 fun b H3 => if b = true then te (S (f i) σ) H3 R else R0 H3)
    (q : ∀ D H' acc, H D = none → Ext [] H H' → H' D = some (.lst acc) → acc.length ≤ n → P n acc H' → Q (.ref D) H') : LTurns J g tt te vs σ H Q := by
  intro D hD
  refine ⟨fun i m H1 => m = n - i ∧ i ≤ n ∧ Ext [] H H1 ∧ ∃ acc, H1 D = some (.lst acc) ∧ acc.length ≤ i ∧ P i acc H1, ⟨n, by simp, Nat.zero_le _, Ext.new hD, [], upd_same, Nat.le_refl _, hP 0 [] H _ (Ext.new (F := []) hD).tups h0⟩, ?_⟩
  rintro i m H1 ⟨rfl, hi, e, acc, hA, hl, p⟩
  by_cases hlt : i < n
  · refine .inr ⟨jg i H1 e hlt, fun H' => i + 1 ≤ n ∧ Ext [] H H' ∧ ∃ acc, H' D = some (.lst acc) ∧ acc.length ≤ i + 1 ∧ P (i + 1) acc H', fun H' p' => ⟨n - (i + 1), by omega, rfl, p'⟩, fun x H' y => ?_⟩
    obtain ⟨rfl, rfl⟩ := jy i H1 x H' e hlt y
    refine hg _ _ _ (hs i acc H' _ _ hlt e hl p (fun y H4 e4 p4 => ?_) fun H3 e3 p3 => ?_)
    · have h4 : H4 D = some (.lst acc) := e4.keep _ _ hA (by simp)
      refine ⟨acc, h4, by omega, hlt, (e.trans e4).wrN h4 (fun xs z => by cases z) hD, acc ++ [y], upd_same, by rw [List.length_append]; simpa using hl, hP _ _ H4 _ (TupK.upd fun xs z => by rw [h4] at z; cases z) p4⟩
    · exact ⟨hlt, e.trans e3, acc, e3.keep _ _ hA (by simp), Nat.le_succ_of_le hl, p3⟩
  · have : i = n := by omega
    subst this
    exact .inl ⟨js H1 e, q D H1 acc hD e hA hl p⟩
theorem wipe1 (σ : St) (j : Nat) (x : V) : wipe ((wipe σ [j]).set j (some x)) [j] = wipe σ [j] := by
  show ((σ.set j none).set j (some x)).set j none = σ.set j none
  rw [List.set_set, List.set_set]
theorem l_lcL {a : Addr} {xs : List V} {j : Nat} (hS : SqL K H a xs) (hz : xs.length < sizeLine) (P : Nat → List V → Hp → Prop) (h0 : P 0 [] H) (hP : ∀ i acc H1 H2, TupK H1 H2 → P i acc H1 → P i acc H2)
    (hs : ∀ i x acc H1 (R : VK) (R0 : Hp → Prop), xs[i]? = some x → Ext [] H H1 → acc.length ≤ i → P i acc H1 →
      (∀ y H4, Ext [] H1 H4 → P (i + 1) (acc ++ [y]) H4 → R y H4) → (∀ H3, Ext [] H1 H3 → P (i + 1) acc H3 → R0 H3) →
      tt (σ.set j (some x)) H1 fun b H3 => if b = true then te (σ.set j (some x)) H3 R else R0 H3)
    (q : ∀ D H' acc, H D = none → Ext [] H H' → H' D = some (.lst acc) → acc.length ≤ xs.length → P xs.length acc H' → Q (.ref D) H') : LLc K (gName j) tt te [j] σ (.ref a) H Q := by
  refine ⟨a, rfl, ⟨xs, hS⟩, turns_by (n := xs.length) (f := fun i => xs.getD i .non) hz (fun i H1 e h => ⟨xs, xs[i], e.seqL (by simp) hS, by simp [h]⟩) (fun H1 e => ?_) (fun i H1 x H' e h y => ?_) (fun x σ => σ.set j (some x)) (fun x H1 R r => ?_) P h0 hP (fun i acc H1 R R0 h e hl p q1 q0 => ?_) q⟩
  · exact ⟨xs, e.seqL (by simp) hS, Nat.le_refl _⟩
  · obtain ⟨e1, y⟩ := y
    subst e1
    have z := y xs (e.seqL (by simp) hS)
    rw [List.getD_eq_getElem?_getD, z]
    exact ⟨rfl, rfl⟩
  · refine ⟨wipe1 σ j x, ?_⟩
    rw [show (wipe σ [j]).set j (some x) = σ.set j (some x) from sets3 σ j _]
    exact r
  · refine hs i _ acc H1 R R0 ?_ e hl p q1 q0
    rw [List.getD_eq_getElem?_getD, List.getElem?_eq_getElem h]
    rfl
theorem l_lcR {n : Int} {j : Nat} (hb : n ≤ 100000) (hb2 : -100000 ≤ n) (P : Nat → List V → Hp → Prop) (h0 : P 0 [] H) (hP : ∀ i acc H1 H2, TupK H1 H2 → P i acc H1 → P i acc H2)
    (hs : ∀ (i : Nat) acc H1 (R : VK) (R0 : Hp → Prop), i < n.toNat → Ext [] H H1 → acc.length ≤ i → P i acc H1 →
      (∀ y H4, Ext [] H1 H4 → P (i + 1) (acc ++ [y]) H4 → R y H4) → (∀ H3, Ext [] H1 H3 → P (i + 1) acc H3 → R0 H3) →
      tt (σ.set j (some (.int (0 + (i : Int))))) H1 fun b H3 => if b = true then te (σ.set j (some (.int (0 + (i : Int))))) H3 R else R0 H3)
    (q : ∀ D H' acc, H D = none → Ext [] H H' → H' D = some (.lst acc) → acc.length ≤ n.toNat → P n.toNat acc H' → Q (.ref D) H') : LLr (gName j) tt te [j] σ [.int n] H Q := by
  refine ⟨n, rfl, by omega, by omega, turns_by (n := n.toNat) (f := fun i => .int (0 + (i : Int))) (Nat.lt_of_le_of_lt (show n.toNat ≤ 100000 by omega) (by decide)) (fun i H1 e h => h) (fun H1 e => Nat.le_refl _) (fun i H1 x H' e h y => y) (fun x σ => σ.set j (some x)) (fun x H1 R r => ?_) P h0 hP hs q⟩
  refine ⟨wipe1 σ j x, ?_⟩
  rw [show (wipe σ [j]).set j (some x) = σ.set j (some x) from sets3 σ j _]
  exact r
end
end LW

set_option maxHeartbeats 4000000
namespace LW
open PySem PySem.Spec PyProof.Rows L2
/-! ### several things in the heap, each with what it owns -/
section
variable {ι : Type} [DecidableEq ι]
def at_ {α : Type} (f : ι → α) (i : ι) (x : α) : ι → α := fun j => if j = i then x else f j
theorem at_same {α : Type} {f : ι → α} {i : ι} {x : α} : at_ f i x i = x := if_pos rfl
theorem at_ne {α : Type} {f : ι → α} {i j : ι} {x : α} (h : j ≠ i) : at_ f i x j = f j := if_neg h
theorem at_id {α : Type} {f : ι → α} {i : ι} : at_ f i (f i) = f := by
  funext j
  unfold at_
  by_cases h : j = i
  · rw [if_pos h, h]
  · rw [if_neg h]
structure Sep (H0 H : Hp) (F : ι → List Addr) : Prop where
  ap : ∀ i j, i ≠ j → Apart (F i) (F j)
  lv : ∀ i, Live H (F i)
  ex : Ext [] H0 H
  nw : ∀ i, ∀ c ∈ F i, H0 c = none
theorem Grow.unb {H H0 : Hp} {F G : List Addr} (g : Grow H F G) (e : Ext [] H0 H) (n : ∀ c ∈ F, H0 c = none) : ∀ c ∈ G, H0 c = Option.none := fun c h => (g c h).elim (n c) fun z => e.free z (by simp)
theorem Sep.step {H0 H H' : Hp} {F : ι → List Addr} {i : ι} {G : List Addr} (S : Sep H0 H F) (e : Ext (F i) H H') (g : Grow H (F i) G) (l : Live H' G) : Sep H0 H' (at_ F i G) := by
  refine ⟨fun j k h => ?_, fun j => ?_, S.ex.then e fun c h => .inr (S.nw i c h), fun j => ?_⟩
  · by_cases hj : j = i
    · subst hj
      rw [at_same, at_ne (Ne.symm h)]
      exact (S.ap j k h).grow g (S.lv k)
    · rw [at_ne hj]
      by_cases hk : k = i
      · subst hk
        rw [at_same]
        exact ((S.ap k j (Ne.symm h)).grow g (S.lv j)).symm
      · rw [at_ne hk]
        exact S.ap j k h
  · by_cases hj : j = i
    · subst hj; rw [at_same]; exact l
    · rw [at_ne hj]; exact (S.lv j).ext e (S.ap j i hj)
  · by_cases hj : j = i
    · subst hj; rw [at_same]; exact g.unb S.ex (S.nw j)
    · rw [at_ne hj]; exact S.nw j
theorem Sep.keepF {H0 H H' : Hp} {F : ι → List Addr} {i : ι} (S : Sep H0 H F) (e : Ext (F i) H H') (l : Live H' (F i)) : Sep H0 H' F := by
  have z := S.step e (Grow.refl _ _) l
  rw [at_id] at z
  exact z
theorem Sep.same {H0 H H' : Hp} {F : ι → List Addr} (S : Sep H0 H F) (e : Ext [] H H') : Sep H0 H' F :=
  ⟨S.ap, fun i => (S.lv i).ext e fun _ _ z => (by cases z), S.ex.trans e, S.nw⟩
/-- the thing at j is out of the reach of what the one at i does -/
theorem Sep.out {H0 H : Hp} {F : ι → List Addr} {i j : ι} (S : Sep H0 H F) (h : j ≠ i) : Apart (F j) (F i) := S.ap j i h
end
/-- a new list, then something that may write it -/
theorem Ext.newThen {F G : List Addr} {H H1 H' : Hp} (a : Ext [] H H1) (b : Ext G H1 H') (h : ∀ c ∈ G, c ∈ F ∨ H c = none) : Ext F H H' := (a.sub (fun _ z => by cases z) : Ext F H H1).then b h
theorem Grow.mono {H H1 : Hp} {F G : List Addr} (g : Grow H1 F G) (e : Ext [] H H1) : Grow H F G := fun c h => (g c h).elim .inl fun z => .inr (e.free z (by simp))
theorem Grow.of {H : Hp} {F G : List Addr} (h : ∀ c ∈ G, c ∈ F ∨ H c = none) : Grow H F G := h
theorem Live.of {H : Hp} {F : List Addr} (h : ∀ c ∈ F, H c ≠ none) : Live H F := h
theorem Apart.sub {F G F' G' : List Addr} (h : Apart F G) (h1 : ∀ c ∈ F', c ∈ F) (h2 : ∀ c ∈ G', c ∈ G) : Apart F' G' := fun c a b => h c (h1 c a) (h2 c b)
/-! ### things: each with what it owns -/
structure Thing where
  At : Hp → List Addr → Prop
  ext : ∀ {H H' : Hp} {F G : List Addr}, At H F → Ext G H H' → Apart F G → At H' F
  live : ∀ {H : Hp} {F : List Addr}, At H F → Live H F
structure Wd {ι : Type} [DecidableEq ι] (H0 H : Hp) (F : ι → List Addr) (R : ι → Thing) : Prop where
  sep : Sep H0 H F
  r : ∀ i, (R i).At H (F i)
section
variable {ι : Type} [DecidableEq ι] {H0 H H' : Hp} {F : ι → List Addr} {R : ι → Thing}
theorem Wd.step {i : ι} {G : List Addr} {T : Thing} (S : Wd H0 H F R) (e : Ext (F i) H H') (g : Grow H (F i) G) (h : T.At H' G) : Wd H0 H' (at_ F i G) (at_ R i T) :=
  ⟨S.sep.step e g (T.live h), fun j => by
    by_cases z : j = i
    · subst z; rw [at_same, at_same]; exact h
    · rw [at_ne z, at_ne z]; exact (R j).ext (S.r j) e (S.sep.ap j i z)⟩
theorem Wd.same (S : Wd H0 H F R) (e : Ext [] H H') : Wd H0 H' F R := ⟨S.sep.same e, fun j => (R j).ext (S.r j) e fun _ _ z => by cases z⟩
theorem Wd.mono {R' : ι → Thing} (S : Wd H0 H F R) (h : ∀ i H F, (R i).At H F → (R' i).At H F) : Wd H0 H F R' := ⟨S.sep, fun i => h i _ _ (S.r i)⟩
theorem Wd.keepF {i : ι} {T : Thing} (S : Wd H0 H F R) (e : Ext (F i) H H') (h : T.At H' (F i)) : Wd H0 H' F (at_ R i T) := by
  have z := S.step e (Grow.refl _ _) h
  rw [at_id] at z
  exact z
end
/-- nothing yet -/
def noTh : Thing where
  At := fun _ F => F = []
  ext := fun h _ _ => h
  live := fun h => by subst h; exact Live.nil
section
variable {ι : Type} [DecidableEq ι] {H : Hp}
theorem Wd.start : Wd (ι := ι) H H (fun _ => []) (fun _ => noTh) := ⟨⟨fun _ _ _ _ z => absurd z List.not_mem_nil, fun _ => Live.nil, Ext.refl _ _, fun _ _ z => absurd z List.not_mem_nil⟩, fun _ => rfl⟩
end
theorem Grow.nil {H : Hp} {F : List Addr} : Grow H F [] := fun _ z => by cases z
theorem Grow.cons {H : Hp} {F G : List Addr} {a : Addr} (h : H a = none) (g : Grow H F G) : Grow H F (a :: G) := fun c z => (List.mem_cons.mp z).elim (fun e => .inr (e ▸ h)) (g c)
theorem Grow.app2 {H : Hp} {F G1 G2 : List Addr} (h1 : Grow H F G1) (h2 : Grow H F G2) : Grow H F (G1 ++ G2) := fun c m => (List.mem_append.mp m).elim (h1 c) (h2 c)
end LW

set_option maxHeartbeats 4000000
namespace LW
open PySem PySem.Spec PyProof.Rows L2
/-! ### more built-ins by names -/
def rSW : V → List V → Hp → VK → Prop := fun x xs H Q => ∃ a b, x = .str a ∧ xs = [.str b] ∧ Q (.bl (begins a b)) H
def rJoin (K : PySem.W.Frag) : V → List V → Hp → VK → Prop := fun x xs H Q => ∃ p, ∃ ys : List Str, x = .str Str.empty ∧ xs = [.ref p] ∧ SqL K H p (ys.map V.str) ∧ (ys.map (·.length)).sum ≤ 16777216 ∧ Q (.str (Txt.join Str.empty ys)) H
def rMax : List V → Hp → VK → Prop := fun xs H Q => ∃ i j : Int, xs = [.int i, .int j] ∧ Q (.int (max i j)) H
def rMin : List V → Hp → VK → Prop := fun xs H Q => ∃ i j : Int, xs = [.int i, .int j] ∧ Q (.int (min i j)) H
def rAbs : List V → Hp → VK → Prop := fun xs H Q => ∃ i : Int, xs = [.int i] ∧ Q (.int (i.natAbs : Int)) H
section
variable {X : Cx}
theorem oSW : MtR X "str.startswith" rSW := fun pins s σ H x xs v us Q I rx rv ⟨a, b, ex, eb, q⟩ => mt_startswith pins s σ H x xs v us Q I rx rv ⟨a, b, ex, eb, by rw [startswith_begin]; exact q⟩
theorem oMax (hc : X.calm = true) : CallR X (.builtin "max") rMax := fun pins s σ H xs us Q I r ⟨i, j, e, q⟩ => call_max2 hc pins s σ H xs us Q I r ⟨i, j, e, by
  have : (if j > i then j else i) = max i j := by rw [Int.max_def]; split <;> split <;> omega
  rw [this]; exact q⟩
theorem oMin (hc : X.calm = true) : CallR X (.builtin "min") rMin := fun pins s σ H xs us Q I r ⟨i, j, e, q⟩ => call_min2 hc pins s σ H xs us Q I r ⟨i, j, e, by
  have : (if j < i then j else i) = min i j := by rw [Int.min_def]; split <;> split <;> omega
  rw [this]; exact q⟩
theorem oAbs : CallR X (.builtin "abs") rAbs := fun pins s σ H xs us Q I r ⟨i, e, q⟩ => call_abs pins s σ H xs us Q I r ⟨i, e, by
  have : (if i < 0 then -i else i) = (i.natAbs : Int) := by split <;> omega
  rw [this]; exact q⟩
theorem oJoin : MtR X "str.join" (rJoin X.K) := fun pins s σ H x xs v us Q I rx rv ⟨p, ys, ex, ep, h, z, q⟩ => mt_join pins s σ H x xs v us Q I rx rv ⟨Str.empty, p, ys, ex, ep, .inl h, by
  have : (Str.empty : Str).length = 0 := rfl
  rw [this]; omega, q⟩
end
section
variable {K : PySem.W.Frag} {σ : St} {H : Hp} {Q : VK} {to te : TE} {tl th : TO} {r : V → List V → Hp → VK → Prop} {R : Option Int → Hp → Prop} {rs : V → Option Int → Option Int → Hp → VK → Prop}
def LStr (x : V) (P : Prop) : Prop := (∃ a, x = .str a) ∧ P
theorem k_m1 (h : to σ H fun x H1 => LStr x (te σ H1 fun y H2 => r x [y] H2 Q)) : tM1 r to te σ H Q := h
theorem l_strX {a : Str} {P : Prop} (q : P) : LStr (.str a) P := ⟨⟨a, rfl⟩, q⟩
theorem l_sw {a b : Str} (q : Q (.bl (begins a b)) H) : rSW (.str a) [.str b] H Q := ⟨a, b, rfl, rfl, q⟩
theorem l_max {i j : Int} (q : Q (.int (max i j)) H) : rMax [.int i, .int j] H Q := ⟨i, j, rfl, q⟩
theorem l_min {i j : Int} (q : Q (.int (min i j)) H) : rMin [.int i, .int j] H Q := ⟨i, j, rfl, q⟩
theorem l_abs {i : Int} (q : Q (.int (i.natAbs : Int)) H) : rAbs [.int i] H Q := ⟨i, rfl, q⟩
theorem l_join {p : Addr} {ys : List Str} (h : SqL K H p (ys.map V.str)) (z : (ys.map (·.length)).sum ≤ 16777216) (q : Q (.str (Txt.join Str.empty ys)) H) : rJoin K (.str Str.empty) [.ref p] H Q := ⟨p, ys, rfl, rfl, h, z, q⟩
-- slices
theorem k_sl (h : to σ H fun x H1 => tl σ H1 fun l H2 => th σ H2 fun u H3 => rs x l u H3 Q) : tSl rs to tl th σ H Q := h
def LPart (x : V) (H : Hp) (R : Option Int → Hp → Prop) : Prop := ∃ i, x = .int i ∧ R (some i) H
theorem k_part (h : te σ H fun x H1 => LPart x H1 R) : tPart te σ H R := h
theorem l_part {i : Int} (q : R (some i) H) : LPart (.int i) H R := ⟨i, rfl, q⟩
theorem k_yes {R : Bool → Hp → Prop} (h : R true H) : tYes σ H R := h
theorem k_nopart (q : R none H) : tNoPart σ H R := q
theorem l_slS {z : Str} {lo hi : Option Int} (h : z.length ≤ sizeLine) (q : Q (.str (cutS z lo hi)) H) : rSlS (.str z) lo hi H Q := ⟨z, rfl, h, q⟩
theorem l_slL {F : List Addr} {H0 : Hp} {a : Addr} {xs : List V} {lo hi : Option Int} (r : Run F H0 H) (h : SqL K H a xs)
    (q : ∀ p H', H0 p = none → p ∉ F → H p = none → Run F H0 H' → H' p = some (.lst (cutV xs lo hi)) → Same H H' → Q (.ref p) H') : rSlL K (.ref a) lo hi H Q := ⟨a, xs, rfl, h, l_new r q⟩
theorem cutV_from {xs : List V} {n : Nat} : cutV xs (some (n : Int)) none = xs.drop n := by
  unfold cutV
  rw [HT.sIx_nat, HT.sIx_none]
  rcases Nat.le_total n xs.length with h | h
  · rw [Nat.min_eq_left h, List.take_of_length_le (by rw [List.length_drop]; exact Nat.le_refl _)]
  · rw [Nat.min_eq_right h, List.drop_of_length_le h, List.drop_of_length_le (Nat.le_refl _)]; simp
theorem cutV_to {xs : List V} {n : Nat} : cutV xs none (some (n : Int)) = xs.take n := by
  unfold cutV
  rw [HT.sIx_nat, HT.sIx_none, List.drop_zero, Nat.sub_zero]
  rcases Nat.le_total n xs.length with h | h
  · rw [Nat.min_eq_left h]
  · rw [Nat.min_eq_right h, List.take_of_length_le h, List.take_of_length_le (Nat.le_refl _)]
end
theorem filter_take_snoc {α : Type} {f : α → Bool} {l : List α} {i : Nat} {x : α} (h : l[i]? = some x) : (l.take (i + 1)).filter f = (l.take i).filter f ++ (if f x = true then [x] else []) := by
  rw [take_succ h, List.filter_append, List.filter_cons]
  rfl
theorem take_snoc_lt {α : Type} {A : List α} {x : α} {m : Nat} (h : (A.take m).length < m) : (A ++ [x]).take m = A.take m ++ [x] := by
  rw [List.length_take] at h
  rw [List.take_of_length_le (by omega : A.length ≤ m), List.take_of_length_le (by rw [List.length_append]; simp; omega)]
theorem take_snoc_ge {α : Type} {A : List α} {x : α} {m : Nat} (h : m ≤ (A.take m).length) : (A ++ [x]).take m = A.take m := by
  rw [List.length_take] at h
  exact List.take_append_of_le_length (by omega)
theorem Run.tk {H H' : Hp} {a : Addr} {xs : List V} (n : ∀ b, b ≠ a → H' b = H b) (h : H a = some (.lst xs)) : TupK H H' := fun c ys e => (n c (ne_of e h fun z => by cases z)).trans e
theorem atI_mem {α : Type} {xs : List α} {n : Int} (h : 0 ≤ n) (l : n < xs.length) : ∃ c, atI xs n = some c ∧ c ∈ xs := by
  have hm : n.toNat < xs.length := by omega
  exact ⟨xs[n.toNat], atI_of h (List.getElem?_eq_getElem hm), List.getElem_mem hm⟩
theorem l_ixS {H : Hp} {Q : VK} {z : Str} {n : Int} (hz : z.length ≤ sizeLine) (h : 0 ≤ n) (l : n < z.length) (ok : PyData.strOk z = true) (q : ∀ s, PyData.strOk s = true → s.length = 1 → Q (.str s) H) : rIxS (.str z) (.int n) H Q := by
  obtain ⟨c, ec, mc⟩ := atI_mem (xs := z.cps.toList) h (by rw [len_toList]; exact l)
  refine ⟨z, n, c, rfl, rfl, hz, ec, q _ ?_ rfl⟩
  rw [all_toList, List.all_eq_true] at *
  intro y my
  have : y = c := by simpa using my
  rw [this]
  exact ok c mc
/-! ### plain texts of bounded length -/
/-- a plain text of at most so many signs -/
structure Tx (n : Nat) (s : Str) : Prop where
  ok : PyData.strOk s = true
  le : s.length ≤ n
theorem len_app (a b : Str) : (a ++ b).length = a.length + b.length := by
  show (a.cps ++ b.cps).size = a.cps.size + b.cps.size
  exact Array.size_append
theorem len_cut (a : Str) (lo hi : Option Int) : (cutS a lo hi).length ≤ a.length := by
  rw [← len_toList a]
  unfold cutS
  rw [← len_toList]
  show ((a.cps.toList.drop _).take _).length ≤ _
  rw [List.length_take, List.length_drop]
  omega
theorem Tx.mono {m n : Nat} {s : Str} (h : Tx m s) (z : m ≤ n) : Tx n s := ⟨h.ok, Nat.le_trans h.le z⟩
theorem Tx.app {m n : Nat} {a b : Str} (h1 : Tx m a) (h2 : Tx n b) : Tx (m + n) (a ++ b) := ⟨ok_append h1.ok h2.ok, by rw [len_app]; have := h1.le; have := h2.le; omega⟩
theorem Tx.cut {n : Nat} {a : Str} {lo hi : Option Int} (h : Tx n a) : Tx n (cutS a lo hi) := ⟨ok_cut h.ok, Nat.le_trans (len_cut _ _ _) h.le⟩
theorem Tx.nil : Tx 0 Str.empty := ⟨by decide +kernel, by decide +kernel⟩
theorem Tx.small {n : Nat} {s : Str} (h : Tx n s) (z : n ≤ 1000) : s.length ≤ sizeLine := Nat.le_trans h.le (Nat.le_trans z (by decide))
section
variable {σ : St} {H : Hp} {Q : VK}
theorem x_addS {m n : Nat} {a b : Str} (h1 : Tx m a) (h2 : Tx n b) (z : m + n ≤ 1000) (q : Q (.str (a ++ b)) H) : rSadd (.str a) (.str b) H Q := k_addS (by rw [← len_app]; exact (h1.app h2).small z) q
theorem x_slS {n : Nat} {a : Str} {lo hi : Option Int} (h : Tx n a) (z : n ≤ 1000) (q : Q (.str (cutS a lo hi)) H) : rSlS (.str a) lo hi H Q := l_slS (h.small z) q
theorem x_lenX {n : Nat} {a : Str} (h : Tx n a) (z : n ≤ 1000) (q : Q (.int a.length) H) : rLenX [.str a] H Q := l_lenX (h.small z) q
end
/-! ### rows with texts: each carries that its texts are plain -/
structure Row where
  n : Int
  t : Int
  w : Str
  k : Str
  v : Str
  ow : Tx 1000 w
  ok : Tx 1000 k
  ov : Tx 1000 v
abbrev fR (r : Row) : List V := [.int r.n, .int r.t, .str r.w, .str r.k, .str r.v]
theorem fR_plain (r : Row) : (fR r).all plainV = true := by
  show (true && (true && (PyData.strOk r.w && (PyData.strOk r.k && (PyData.strOk r.v && true))))) = true
  rw [r.ow.ok, r.ok.ok, r.ov.ok]; rfl
abbrev IsR : Hp → V → Row → Prop := IsT fR
structure SS where
  k : Str
  v : Str
  ok : Tx 1000 k
  ov : Tx 1000 v
abbrev fS (p : SS) : List V := [.str p.k, .str p.v]
theorem fS_plain (p : SS) : (fS p).all plainV = true := by
  show (PyData.strOk p.k && (PyData.strOk p.v && true)) = true
  rw [p.ok.ok, p.ov.ok]; rfl
abbrev IsS : Hp → V → SS → Prop := IsT fS
/-! ### how values are picked for the parameters -/
theorem vals_app : ∀ {vs ws : List V} {us xs : List Value}, Vals vs us → Vals ws xs → Vals (vs ++ ws) (us ++ xs)
  | _, _, _, _, .nil, h => h
  | _, _, _, _, .cons a t, h => .cons a (vals_app t h)
theorem vals_pick : ∀ {vs : List V} {us : List Value} (j : Nat), Vals vs us → Vals ((vs.drop j).take 1) ((us.drop j).take 1)
  | _, _, j, .nil => by rw [List.drop_nil, List.drop_nil]; exact .nil
  | _, _, 0, .cons a t => .cons a .nil
  | _, _, j + 1, .cons a t => vals_pick j t
section
variable {σ : St} {H : Hp} {Q : VK} {ta : TE} {t tk : TA} {C : Addr} {m : Str} {n j : Nat} {sp : Sp} {gV : List V → List V → List V} {E : St → XK}
theorem k_methG (h : ta σ H fun x H1 => LIns C m x H1 (t σ H1 fun vs H2 => tk σ H2 fun zs H3 => (x :: vs).length = n ∧ zs.length = j ∧ sp (gV (x :: vs) zs) H3 Q (E σ))) : tMethG C m n j sp gV E ta t tk σ H Q := h
end
/-! ### within a comprehension the rules name K -/
theorem ix_tupK {X : Cx} {K : PySem.W.Frag} (e : X.K = K) : IxR X (rIxT K) := e ▸ ix_tup
theorem ix_listK {X : Cx} {K : PySem.W.Frag} (e : X.K = K) : IxR X (rIxL K) := e ▸ ix_list
theorem l_isiSS {K : PySem.W.Frag} {H : Hp} {Q : VK} {a : Str} (q : Q (.bl true) H) : rIsi K [.str a, .ty "str"] H Q := l_isiS rfl q
theorem atI_last {α : Type} {xs : List α} {v : α} (e : xs[xs.length - 1]? = some v) : atI xs (-1) = some v := by
  have h : 0 < xs.length := by
    rcases Nat.eq_zero_or_pos xs.length with z | z
    · rw [List.getElem?_eq_none (by omega)] at e; cases e
    · exact z
  unfold atI ixN
  rw [if_neg (by omega), if_pos (by omega)]
  have : (-1 + (xs.length : Int)).toNat = xs.length - 1 := by omega
  first
    | rw [this]; exact e
    | (simp only [Option.bind_some]; rw [show ((xs.length : Int) + -1).toNat = xs.length - 1 by omega]; exact e)
theorem ixTx {xs : List Str} {n : Int} {m : Nat} (h : 0 ≤ n) (l : n < xs.length) (ok : ∀ s ∈ xs, Tx m s) : ∃ s, atI (xs.map V.str) n = some (.str s) ∧ Tx m s := by
  obtain ⟨c, ec, mc⟩ := atI_mem (xs := xs.map V.str) h (by rw [List.length_map]; exact l)
  obtain ⟨t, mt, rfl⟩ := List.mem_map.mp mc
  exact ⟨t, ec, ok t mt⟩
def txB (m : Nat) (s : Str) : Bool := PyData.strOk s && decide (s.length ≤ m)
theorem txD {m : Nat} {s : Str} (h : txB m s = true) : Tx m s := by
  unfold txB at h
  rw [Bool.and_eq_true, decide_eq_true_eq] at h
  exact ⟨h.1, h.2⟩
theorem txA {m : Nat} {xs : List Str} (h : xs.all (txB m) = true) : ∀ s ∈ xs, Tx m s := fun s hs => txD (List.all_eq_true.mp h s hs)
/-! ### two ways that meet again -/
section
variable {nx bk ct : St → Hp → Prop} {rt : VK} {σ : St} {H : Hp} {t u : TS} {b : Bool}
theorem k_fork (Pre : St → Hp → Prop) (main : ∀ nx' : St → Hp → Prop, (∀ σ' H', Pre σ' H' → nx' σ' H') → if b = true then t ⟨nx', rt, bk, ct⟩ σ H else u ⟨nx', rt, bk, ct⟩ σ H)
    (key : ∀ σ' H', Pre σ' H' → nx σ' H') : if b = true then t ⟨nx, rt, bk, ct⟩ σ H else u ⟨nx, rt, bk, ct⟩ σ H := main nx key
theorem k_join (Pre : St → Hp → Prop) (main : ∀ nx' : St → Hp → Prop, (∀ σ' H', Pre σ' H' → nx' σ' H') → t ⟨nx', rt, bk, ct⟩ σ H) (key : ∀ σ' H', Pre σ' H' → nx σ' H') : t ⟨nx, rt, bk, ct⟩ σ H := main nx key
end
theorem ix2 {f : Bool → V} (n : Int) : atI [f false, f true] (n % 2) = some (f (decide (n % 2 = 1))) := by
  have h : n % 2 = 0 ∨ n % 2 = 1 := by omega
  rcases h with h | h <;> rw [h] <;> rfl
theorem ixI {xs : List Int} {n : Int} (h : 0 ≤ n) (l : n < xs.length) : ∃ d, atI (xs.map V.int) n = some (.int d) := ⟨_, atI_map (d := 0) h l⟩
end LW

set_option maxHeartbeats 4000000
namespace LW
open PySem PySem.Spec PyProof.Rows L2
def top (i : Nat) : Stmt := PySem.Challenge.pw_leasewatch_k02_changes_by_numbers.main.body.getD i (.Pass ⟨0, 0, 0, 0⟩)
abbrev s_Log_init : Stmt := inClass (top 1) 0
abbrev s_Log_note : Stmt := inClass (top 1) 1
abbrev s_Log_last : Stmt := inClass (top 1) 2
abbrev s_Log_first : Stmt := inClass (top 1) 3
abbrev s_Log_wanted : Stmt := inClass (top 1) 4
abbrev s_Log_forget : Stmt := inClass (top 1) 5
abbrev s_l_whole : Stmt := top 3
abbrev s_l_cell_at : Stmt := top 4
abbrev s_l_sign : Stmt := top 5
abbrev s_l_text : Stmt := top 6
abbrev s_l_pool : Stmt := top 7
abbrev s_l_prefix : Stmt := top 8
abbrev s_l_change : Stmt := top 9
abbrev s_l_changes : Stmt := top 10
abbrev s_l_pairs : Stmt := top 11
abbrev s_l_wanted : Stmt := top 12
abbrev s_l_noted : Stmt := top 13
abbrev s_l_forgot : Stmt := top 14
abbrev s_l_ends : Stmt := top 15
abbrev s_l_step : Stmt := top 16
abbrev s_law : Stmt := top 17
/-- what the top has written -/
structure FX (K : PySem.W.Frag) (mg : Str → Option Value) : Prop where
  g_Log : mg "Log" = some (.ref (He.ga K "Log"))
  g_l_whole : mg "_law_whole" = some (.ref (He.ga K "_law_whole"))
  g_l_cell_at : mg "_law_cell_at" = some (.ref (He.ga K "_law_cell_at"))
  g_l_sign : mg "_law_sign" = some (.ref (He.ga K "_law_sign"))
  g_l_text : mg "_law_text" = some (.ref (He.ga K "_law_text"))
  g_l_pool : mg "_law_pool" = some (.ref (He.ga K "_law_pool"))
  g_l_prefix : mg "_law_prefix" = some (.ref (He.ga K "_law_prefix"))
  g_l_change : mg "_law_change" = some (.ref (He.ga K "_law_change"))
  g_l_changes : mg "_law_changes" = some (.ref (He.ga K "_law_changes"))
  g_l_pairs : mg "_law_pairs" = some (.ref (He.ga K "_law_pairs"))
  g_l_wanted : mg "_law_wanted" = some (.ref (He.ga K "_law_wanted"))
  g_l_noted : mg "_law_noted" = some (.ref (He.ga K "_law_noted"))
  g_l_forgot : mg "_law_forgot" = some (.ref (He.ga K "_law_forgot"))
  g_l_ends : mg "_law_ends" = some (.ref (He.ga K "_law_ends"))
  g_l_step : mg "_law_step" = some (.ref (He.ga K "_law_step"))
  g_law : mg "law" = some (.ref (He.ga K "law"))
  f_isinstance : mg "isinstance" = none
  f_len : mg "len" = none
  f_sorted : mg "sorted" = none
  f_range : mg "range" = none
  f_int : mg "int" = none
  f_bool : mg "bool" = none
  f_str : mg "str" = none
  f_list : mg "list" = none
  f_tuple : mg "tuple" = none
  f_ValueError : mg "ValueError" = none
  f_min : mg "min" = none
  f_max : mg "max" = none
  f_abs : mg "abs" = none
  f_zip : mg "zip" = none
  cl_Log : Cls K (He.ga K "Log")
  mk_Log : Mk K (He.ga K "Log") (He.ma K (He.ga K "Log") "__init__")
  na_Log_rows : NoAttr K (He.ga K "Log") "rows"
  na_Log_gone : NoAttr K (He.ga K "Log") "gone"
  me_Log_note : Meth K (He.ga K "Log") "note" (He.ma K (He.ga K "Log") "note")
  me_Log_last : Meth K (He.ga K "Log") "last" (He.ma K (He.ga K "Log") "last")
  me_Log_first : Meth K (He.ga K "Log") "first" (He.ma K (He.ga K "Log") "first")
  me_Log_wanted : Meth K (He.ga K "Log") "wanted" (He.ma K (He.ga K "Log") "wanted")
  me_Log_forget : Meth K (He.ga K "Log") "forget" (He.ma K (He.ga K "Log") "forget")
  F_Log_init : FunD K "__init__" "Log.__init__" (defArgs s_Log_init) (defBody s_Log_init) (defScope s_Log_init) [] [] (He.ma K (He.ga K "Log") "__init__") (fdAt K ("Log", some "__init__"))
  F_Log_note : FunD K "note" "Log.note" (defArgs s_Log_note) (defBody s_Log_note) (defScope s_Log_note) [] [] (He.ma K (He.ga K "Log") "note") (fdAt K ("Log", some "note"))
  F_Log_last : FunD K "last" "Log.last" (defArgs s_Log_last) (defBody s_Log_last) (defScope s_Log_last) [] [] (He.ma K (He.ga K "Log") "last") (fdAt K ("Log", some "last"))
  F_Log_first : FunD K "first" "Log.first" (defArgs s_Log_first) (defBody s_Log_first) (defScope s_Log_first) [] [] (He.ma K (He.ga K "Log") "first") (fdAt K ("Log", some "first"))
  F_Log_wanted : FunD K "wanted" "Log.wanted" (defArgs s_Log_wanted) (defBody s_Log_wanted) (defScope s_Log_wanted) [] [] (He.ma K (He.ga K "Log") "wanted") (fdAt K ("Log", some "wanted"))
  F_Log_forget : FunD K "forget" "Log.forget" (defArgs s_Log_forget) (defBody s_Log_forget) (defScope s_Log_forget) [] [] (He.ma K (He.ga K "Log") "forget") (fdAt K ("Log", some "forget"))
  F_l_whole : FunD K "_law_whole" "_law_whole" (defArgs s_l_whole) (defBody s_l_whole) (defScope s_l_whole) [] [] (He.ga K "_law_whole") (fdAt K ("_law_whole", none))
  F_l_cell_at : FunD K "_law_cell_at" "_law_cell_at" (defArgs s_l_cell_at) (defBody s_l_cell_at) (defScope s_l_cell_at) [] [] (He.ga K "_law_cell_at") (fdAt K ("_law_cell_at", none))
  F_l_sign : FunD K "_law_sign" "_law_sign" (defArgs s_l_sign) (defBody s_l_sign) (defScope s_l_sign) [] [] (He.ga K "_law_sign") (fdAt K ("_law_sign", none))
  F_l_text : FunD K "_law_text" "_law_text" (defArgs s_l_text) (defBody s_l_text) (defScope s_l_text) [] [] (He.ga K "_law_text") (fdAt K ("_law_text", none))
  F_l_pool : FunD K "_law_pool" "_law_pool" (defArgs s_l_pool) (defBody s_l_pool) (defScope s_l_pool) [] [] (He.ga K "_law_pool") (fdAt K ("_law_pool", none))
  F_l_prefix : FunD K "_law_prefix" "_law_prefix" (defArgs s_l_prefix) (defBody s_l_prefix) (defScope s_l_prefix) [] [] (He.ga K "_law_prefix") (fdAt K ("_law_prefix", none))
  F_l_change : FunD K "_law_change" "_law_change" (defArgs s_l_change) (defBody s_l_change) (defScope s_l_change) [] [] (He.ga K "_law_change") (fdAt K ("_law_change", none))
  F_l_changes : FunD K "_law_changes" "_law_changes" (defArgs s_l_changes) (defBody s_l_changes) (defScope s_l_changes) [] [] (He.ga K "_law_changes") (fdAt K ("_law_changes", none))
  F_l_pairs : FunD K "_law_pairs" "_law_pairs" (defArgs s_l_pairs) (defBody s_l_pairs) (defScope s_l_pairs) [] [] (He.ga K "_law_pairs") (fdAt K ("_law_pairs", none))
  F_l_wanted : FunD K "_law_wanted" "_law_wanted" (defArgs s_l_wanted) (defBody s_l_wanted) (defScope s_l_wanted) [] [] (He.ga K "_law_wanted") (fdAt K ("_law_wanted", none))
  F_l_noted : FunD K "_law_noted" "_law_noted" (defArgs s_l_noted) (defBody s_l_noted) (defScope s_l_noted) [] [] (He.ga K "_law_noted") (fdAt K ("_law_noted", none))
  F_l_forgot : FunD K "_law_forgot" "_law_forgot" (defArgs s_l_forgot) (defBody s_l_forgot) (defScope s_l_forgot) [] [] (He.ga K "_law_forgot") (fdAt K ("_law_forgot", none))
  F_l_ends : FunD K "_law_ends" "_law_ends" (defArgs s_l_ends) (defBody s_l_ends) (defScope s_l_ends) [] [] (He.ga K "_law_ends") (fdAt K ("_law_ends", none))
  F_l_step : FunD K "_law_step" "_law_step" (defArgs s_l_step) (defBody s_l_step) (defScope s_l_step) [] [] (He.ga K "_law_step") (fdAt K ("_law_step", none))
  F_law : FunD K "law" "law" (defArgs s_law) (defBody s_law) (defScope s_law) [] [] (He.ga K "law") (fdAt K ("law", none))
section
variable {K : PySem.W.Frag} {mg : Str → Option Value}
theorem FX.b_Log_init (T : FX K mg) : Binds K (fdAt K ("Log", some "__init__")) ["self"] [] := T.F_Log_init.bindsN fun _ _ _ _ _ _ us hl => match us, hl with | [_], _ => rfl
theorem FX.b_Log_note (T : FX K mg) : Binds K (fdAt K ("Log", some "note")) ["self", "tick", "word", "key", "value"] [] := T.F_Log_note.bindsN fun _ _ _ _ _ _ us hl => match us, hl with | [_, _, _, _, _], _ => rfl
theorem FX.b_Log_last (T : FX K mg) : Binds K (fdAt K ("Log", some "last")) ["self"] [] := T.F_Log_last.bindsN fun _ _ _ _ _ _ us hl => match us, hl with | [_], _ => rfl
theorem FX.b_Log_first (T : FX K mg) : Binds K (fdAt K ("Log", some "first")) ["self"] [] := T.F_Log_first.bindsN fun _ _ _ _ _ _ us hl => match us, hl with | [_], _ => rfl
theorem FX.b_Log_wanted (T : FX K mg) : Binds K (fdAt K ("Log", some "wanted")) ["self", "prefix", "behind", "most"] [] := T.F_Log_wanted.bindsN fun _ _ _ _ _ _ us hl => match us, hl with | [_, _, _, _], _ => rfl
theorem FX.b_Log_forget (T : FX K mg) : Binds K (fdAt K ("Log", some "forget")) ["self", "upto"] [] := T.F_Log_forget.bindsN fun _ _ _ _ _ _ us hl => match us, hl with | [_, _], _ => rfl
theorem FX.k_l_whole (T : FX K mg) : PySem.W.keepIn K (.ref (He.ga K "_law_whole")) = true := T.F_l_whole.kp
theorem FX.b_l_whole (T : FX K mg) : Binds K (fdAt K ("_law_whole", none)) ["_law_found"] [] := T.F_l_whole.bindsN fun _ _ _ _ _ _ us hl => match us, hl with | [_], _ => rfl
theorem FX.k_l_cell_at (T : FX K mg) : PySem.W.keepIn K (.ref (He.ga K "_law_cell_at")) = true := T.F_l_cell_at.kp
theorem FX.b_l_cell_at (T : FX K mg) : Binds K (fdAt K ("_law_cell_at", none)) ["_law_script", "_law_k"] [] := T.F_l_cell_at.bindsN fun _ _ _ _ _ _ us hl => match us, hl with | [_, _], _ => rfl
theorem FX.k_l_sign (T : FX K mg) : PySem.W.keepIn K (.ref (He.ga K "_law_sign")) = true := T.F_l_sign.kp
theorem FX.b_l_sign (T : FX K mg) : Binds K (fdAt K ("_law_sign", none)) ["_law_cell"] [] := T.F_l_sign.bindsN fun _ _ _ _ _ _ us hl => match us, hl with | [_], _ => rfl
theorem FX.k_l_text (T : FX K mg) : PySem.W.keepIn K (.ref (He.ga K "_law_text")) = true := T.F_l_text.kp
theorem FX.b_l_text (T : FX K mg) : Binds K (fdAt K ("_law_text", none)) ["_law_cell", "_law_size"] [] := T.F_l_text.bindsN fun _ _ _ _ _ _ us hl => match us, hl with | [_, _], _ => rfl
theorem FX.k_l_pool (T : FX K mg) : PySem.W.keepIn K (.ref (He.ga K "_law_pool")) = true := T.F_l_pool.kp
theorem FX.b_l_pool (T : FX K mg) : Binds K (fdAt K ("_law_pool", none)) ["_law_cell", "_law_other"] [] := T.F_l_pool.bindsN fun _ _ _ _ _ _ us hl => match us, hl with | [_, _], _ => rfl
theorem FX.k_l_prefix (T : FX K mg) : PySem.W.keepIn K (.ref (He.ga K "_law_prefix")) = true := T.F_l_prefix.kp
theorem FX.b_l_prefix (T : FX K mg) : Binds K (fdAt K ("_law_prefix", none)) ["_law_pool_here", "_law_cell"] [] := T.F_l_prefix.bindsN fun _ _ _ _ _ _ us hl => match us, hl with | [_, _], _ => rfl
theorem FX.k_l_change (T : FX K mg) : PySem.W.keepIn K (.ref (He.ga K "_law_change")) = true := T.F_l_change.kp
theorem FX.b_l_change (T : FX K mg) : Binds K (fdAt K ("_law_change", none)) ["_law_found"] [] := T.F_l_change.bindsN fun _ _ _ _ _ _ us hl => match us, hl with | [_], _ => rfl
theorem FX.k_l_changes (T : FX K mg) : PySem.W.keepIn K (.ref (He.ga K "_law_changes")) = true := T.F_l_changes.kp
theorem FX.b_l_changes (T : FX K mg) : Binds K (fdAt K ("_law_changes", none)) ["_law_found", "_law_due"] [] := T.F_l_changes.bindsN fun _ _ _ _ _ _ us hl => match us, hl with | [_, _], _ => rfl
theorem FX.k_l_pairs (T : FX K mg) : PySem.W.keepIn K (.ref (He.ga K "_law_pairs")) = true := T.F_l_pairs.kp
theorem FX.b_l_pairs (T : FX K mg) : Binds K (fdAt K ("_law_pairs", none)) ["_law_found", "_law_due"] [] := T.F_l_pairs.bindsN fun _ _ _ _ _ _ us hl => match us, hl with | [_, _], _ => rfl
theorem FX.k_l_wanted (T : FX K mg) : PySem.W.keepIn K (.ref (He.ga K "_law_wanted")) = true := T.F_l_wanted.kp
theorem FX.b_l_wanted (T : FX K mg) : Binds K (fdAt K ("_law_wanted", none)) ["_law_mine", "_law_prefix_here", "_law_behind", "_law_most"] [] := T.F_l_wanted.bindsN fun _ _ _ _ _ _ us hl => match us, hl with | [_, _, _, _], _ => rfl
theorem FX.k_l_noted (T : FX K mg) : PySem.W.keepIn K (.ref (He.ga K "_law_noted")) = true := T.F_l_noted.kp
theorem FX.b_l_noted (T : FX K mg) : Binds K (fdAt K ("_law_noted", none)) ["_law_log", "_law_mine", "_law_pool_here", "_law_cell", "_law_more"] [] := T.F_l_noted.bindsN fun _ _ _ _ _ _ us hl => match us, hl with | [_, _, _, _, _], _ => rfl
theorem FX.k_l_forgot (T : FX K mg) : PySem.W.keepIn K (.ref (He.ga K "_law_forgot")) = true := T.F_l_forgot.kp
theorem FX.b_l_forgot (T : FX K mg) : Binds K (fdAt K ("_law_forgot", none)) ["_law_log", "_law_mine", "_law_cell"] [] := T.F_l_forgot.bindsN fun _ _ _ _ _ _ us hl => match us, hl with | [_, _, _], _ => rfl
theorem FX.k_l_ends (T : FX K mg) : PySem.W.keepIn K (.ref (He.ga K "_law_ends")) = true := T.F_l_ends.kp
theorem FX.b_l_ends (T : FX K mg) : Binds K (fdAt K ("_law_ends", none)) ["_law_log", "_law_mine"] [] := T.F_l_ends.bindsN fun _ _ _ _ _ _ us hl => match us, hl with | [_, _], _ => rfl
theorem FX.k_l_step (T : FX K mg) : PySem.W.keepIn K (.ref (He.ga K "_law_step")) = true := T.F_l_step.kp
theorem FX.b_l_step (T : FX K mg) : Binds K (fdAt K ("_law_step", none)) ["_law_log", "_law_mine", "_law_pool_here", "_law_kind", "_law_cell"] [] := T.F_l_step.bindsN fun _ _ _ _ _ _ us hl => match us, hl with | [_, _, _, _, _], _ => rfl
theorem FX.k_law (T : FX K mg) : PySem.W.keepIn K (.ref (He.ga K "law")) = true := T.F_law.kp
theorem FX.b_law (T : FX K mg) : Binds K (fdAt K ("law", none)) ["_law_script"] [] := T.F_law.bindsN fun _ _ _ _ _ _ us hl => match us, hl with | [_], _ => rfl
end
def fl_Log (x0 x1 : V) : List (Str × V) := [("rows", x0), ("gone", x1)]
section
variable {x0 x1 y : V}
theorem lk_Log_rows : (fl_Log x0 x1).lookup ("rows" : Str) = some x0 := by kernel_rfl
theorem pt_Log_rows : putF "rows" y (fl_Log x0 x1) = fl_Log y x1 := by kernel_rfl
theorem lk_Log_gone : (fl_Log x0 x1).lookup ("gone" : Str) = some x1 := by kernel_rfl
theorem pt_Log_gone : putF "gone" y (fl_Log x0 x1) = fl_Log x0 y := by kernel_rfl
theorem pi_Log_0 : putF "rows" x0 [] = ([("rows", x0)] : List (Str × V)) := by kernel_rfl
theorem pi_Log_1 : putF "gone" x1 ([("rows", x0)] : List (Str × V)) = (fl_Log x0 x1) := by kernel_rfl
theorem lz_Log : (fl_Log x0 x1).length < 1000 := by show 2 < 1000; decide
theorem lm_Log_note : (fl_Log x0 x1).lookup ("note" : Str) = none := by kernel_rfl
theorem lm_Log_last : (fl_Log x0 x1).lookup ("last" : Str) = none := by kernel_rfl
theorem lm_Log_first : (fl_Log x0 x1).lookup ("first" : Str) = none := by kernel_rfl
theorem lm_Log_wanted : (fl_Log x0 x1).lookup ("wanted" : Str) = none := by kernel_rfl
theorem lm_Log_forget : (fl_Log x0 x1).lookup ("forget" : Str) = none := by kernel_rfl
end
def rc_mine (x0 x1 x2 : V) : List (Key × V) := [(Sum.inr "rows", x0), (Sum.inr "gone", x1), (Sum.inr "told", x2)]
section
variable {x0 x1 x2 y : V}
theorem rv_mine_rows : valV (rc_mine x0 x1 x2) (Sum.inr "rows" : Key) = some x0 := by kernel_rfl
theorem rp_mine_rows : putK (rc_mine x0 x1 x2) (Sum.inr "rows" : Key) y = rc_mine y x1 x2 := by kernel_rfl
theorem rv_mine_gone : valV (rc_mine x0 x1 x2) (Sum.inr "gone" : Key) = some x1 := by kernel_rfl
theorem rp_mine_gone : putK (rc_mine x0 x1 x2) (Sum.inr "gone" : Key) y = rc_mine x0 y x2 := by kernel_rfl
theorem rv_mine_told : valV (rc_mine x0 x1 x2) (Sum.inr "told" : Key) = some x2 := by kernel_rfl
theorem rp_mine_told : putK (rc_mine x0 x1 x2) (Sum.inr "told" : Key) y = rc_mine x0 x1 y := by kernel_rfl
theorem rm_mine : mergeK [] (([(V.str "rows", x0), (V.str "gone", x1), (V.str "told", x2)] : List (V × V)).map keyOf) = (rc_mine x0 x1 x2) := by kernel_rfl
theorem rl_mine : (rc_mine x0 x1 x2).length < sizeLine := by show 3 < sizeLine; decide
end
end LW


set_option maxHeartbeats 4000000
namespace LW
open PySem PySem.Spec PyProof.Rows L2
local macro_rules | `(tactic| wtm_at "vk") => `(tactic| first
  | assumption
  | with_reducible exact rv_mine_rows
  | with_reducible exact rv_mine_gone
  | with_reducible exact rv_mine_told
  | exact valV_iv (by assumption)
  | fail)
local macro_rules | `(tactic| wtm_at "pk") => `(tactic| first
  | with_reducible exact putK_iv
  | with_reducible exact dropK_ik
  | with_reducible exact dropK_sk
  | with_reducible exact rp_mine_rows
  | with_reducible exact rp_mine_gone
  | with_reducible exact rp_mine_told
  | assumption
  | fail)
local macro_rules | `(tactic| wtm_at "rm") => `(tactic| first
  | with_reducible exact rm_mine
  | exact rfl
  | fail)
local macro_rules | `(tactic| wtm_at "rl") => `(tactic| first
  | with_reducible exact rl_mine
  | with_reducible assumption
  | fail)
local macro_rules | `(tactic| wtm_at "lk") => `(tactic| with_reducible first
  | exact lk_Log_rows
  | exact lk_Log_gone
  | fail)
local macro_rules | `(tactic| wtm_at "lm") => `(tactic| with_reducible first
  | exact lm_Log_note
  | exact lm_Log_last
  | exact lm_Log_first
  | exact lm_Log_wanted
  | exact lm_Log_forget
  | fail)
local macro_rules | `(tactic| wtm_at "pt") => `(tactic| with_reducible first
  | exact pt_Log_rows
  | exact pt_Log_gone
  | exact pi_Log_0
  | exact pi_Log_1
  | fail)
local macro_rules | `(tactic| wtm_at "lz") => `(tactic| with_reducible first
  | exact lz_Log
  | (simp only [List.length_cons, List.length_nil]; decide)
  | exact (by decide)
  | fail)
local macro_rules | `(tactic| wtm_at "hf") => `(tactic| first
  | assumption
  | (refine' hf_s ?hs ?hx; (case hs => assumption); (case hx => wtm_at "hf"))
  | (refine' hf_n ?hs ?hx ?ne; (case hs => assumption); (case hx => wtm_at "hf"); (case ne => wtm_at "ne"))
  | (refine' hf_e ?hs ?hx ?hy; (case hs => assumption); (case hx => wtm_at "hf"); (case hy => wtm_at "nin"))
  | fail)
local macro_rules | `(tactic| wtm_at "ne") => `(tactic| first
  | assumption
  | (apply Ne.symm; assumption)
  | (refine' ne_of_none ?hx ?hy; (case hy => assumption); (case hx => wtm_at "hf"))
  | (refine' (ne_of_none ?hx ?hy).symm; (case hy => assumption); (case hx => wtm_at "hf"))
  | (refine' ne_of ?hx ?hy ?hz; (case hx => assumption); (case hy => assumption); (case hz => intro z; cases z))
  | fail)
local macro_rules | `(tactic| wtm_at "nin") => `(tactic| first
  | assumption
  | exact notin_nil
  | (refine' notin_cons ?hx ?hy; (case hx => wtm_at "ne"); (case hy => wtm_at "nin"))
  | fail)
local macro_rules | `(tactic| wtm_at "mem") => `(tactic| first
  | assumption
  | exact List.mem_cons_self
  | (refine' List.mem_cons_of_mem _ ?hx; (case hx => wtm_at "mem"))
  | fail)
local macro_rules | `(tactic| wtm_at "wr") => `(tactic| first
  | exact Or.inr (by assumption)
  | exact Or.inl (by wtm_at "mem")
  | fail)
local macro_rules | `(tactic| wtm_at "lv") => `(tactic| first
  | assumption
  | exact Live.nil
  | (refine' Live.cons ?hx ?hy; (case hx => wtm_at "hf"); (case hy => wtm_at "lv"))
  | fail)
local macro_rules | `(tactic| wtm_at "run") => `(tactic| first
  | assumption
  | (refine' Run.same ?hx ?hy; (case hy => assumption); (case hx => wtm_at "run"))
  | fail)
local macro_rules | `(tactic| wtm_at "sq") => `(tactic| first
  | assumption
  | (refine' Run.seq ?hx ?hy; (case hx => assumption); (case hy => assumption))
  | (refine' SqL.of ?hx; (case hx => wtm_at "hf"))
  | (refine' Same.seq ?hx ?hy; (case hx => assumption); (case hy => wtm_at "sq"))
  | (refine' Ext.seqL ?hx ?hz ?hy; (case hx => assumption); (case hy => wtm_at "sq"); (case hz => wtm_at "nin"))
  | fail)
local macro_rules | `(tactic| wtm_at "st") => `(tactic| first
  | assumption
  | (refine' SqT.of ?hx; (case hx => wtm_at "hf"))
  | fail)
local macro_rules | `(tactic| wtm_at "ix") => `(tactic| first
  | assumption
  | exact rfl
  | fail)
local macro_rules | `(tactic| wtm_at "sz") => `(tactic| first
  | wtm_at "rl"
  | with_reducible assumption
  | (rw [ik_len]; wtm_at "sz")
  | (rw [sk_len]; wtm_at "sz")
  | exact small1000 (by assumption)
  | exact small1000 (by omega)
  | exact small1000 (by simp only [List.length_cons, List.length_nil, List.length_append, List.length_map]; omega)
  | fail)
local macro_rules | `(tactic| wtm_at "tx") => `(tactic| first
  | assumption
  | ((with_reducible refine' Tx.app ?hx ?hy); (case hx => wtm_at "tx"); (case hy => wtm_at "tx"))
  | ((with_reducible refine' Tx.cut ?hx); (case hx => wtm_at "tx"))
  | with_reducible exact Tx.nil
  | fail)
local macro_rules | `(tactic| wtm_at "k") => `(tactic| first
  | with_reducible refine k_seq ?_
  | with_reducible refine k_next ?_
  | with_reducible refine k_asg ?_
  | with_reducible refine k_ret ?_
  | with_reducible refine k_retN ?_
  | with_reducible refine k_drop ?_
  | with_reducible refine k_ifS ?_
  | ((with_reducible refine' k_var ?hx ?_); (case hx => exact rfl))
  | with_reducible refine k_c ?_
  | with_reducible refine k_negc ?_
  | with_reducible refine k_neg ?_
  | with_reducible refine l_neg ?_
  | with_reducible refine k_op ?_
  | with_reducible refine k_cb ?_
  | with_reducible refine k_nil ?_
  | with_reducible refine k_cons ?_
  | with_reducible refine k_test ?_
  | with_reducible refine k_B ?_
  | with_reducible refine k_not ?_
  | with_reducible refine k_and ?_
  | with_reducible refine k_or ?_
  | with_reducible refine k_notV ?_
  | with_reducible refine k_andV ?_
  | with_reducible refine k_orV ?_
  | with_reducible refine k_bl ?_
  | with_reducible refine k_add ?_
  | with_reducible refine k_sub ?_
  | ((with_reducible refine' k_mod ?hx ?_); (case hx => first | decide | omega))
  | ((with_reducible refine' k_div ?hx ?_); (case hx => exact ⟨by decide, by decide⟩))
  | ((with_reducible refine' k_mul ?hx ?_); (case hx => first | exact Or.inl ⟨by decide, by decide⟩ | exact Or.inr ⟨by decide, by decide⟩ | exact Or.inl ⟨by omega, by omega⟩))
  | with_reducible refine k_p6 ?_
  | with_reducible refine k_p9 ?_
  | with_reducible refine k_p12 ?_
  | with_reducible refine k_p13 ?_
  | with_reducible refine k_p18 ?_
  | with_reducible refine k_p30 ?_
  | with_reducible refine k_lt ?_
  | with_reducible refine k_le ?_
  | with_reducible refine k_gt ?_
  | with_reducible refine k_ge ?_
  | with_reducible refine k_eq ?_
  | with_reducible refine k_ne ?_
  | with_reducible refine k_seqS ?_
  | with_reducible refine k_neS ?_
  | with_reducible refine k_neB ?_
  | with_reducible refine k_isN ?_
  | with_reducible refine k_noN ?_
  | with_reducible refine k_fld ?_
  | ((with_reducible refine' l_fld ?hx ?hy ?_); (case hx => wtm_at "hf"); (case hy => wtm_at "lk"))
  | with_reducible refine k_fldS ?_
  | ((with_reducible refine' l_fldS ?hr ?hx ?hz ?hy ?hw ?_); (case hr => wtm_at "run"); (case hx => wtm_at "hf"); (case hy => wtm_at "pt"); (case hz => wtm_at "lz"); (case hw => wtm_at "wr"); intro _ _ _ _)
  | ((with_reducible refine' l_new ?hr ?_); (case hr => wtm_at "run"); intro _ _ _ _ _ _ _ _)
  | with_reducible refine k_append ?_
  | ((with_reducible refine' l_tyL ?hx ?_); (case hx => wtm_at "hf"))
  | ((with_reducible refine' l_ins ?hx ?hy ?_); (case hx => wtm_at "hf"); (case hy => wtm_at "lm"))
  | with_reducible refine k_methS ?_
  | with_reducible refine k_methG ?_
  | with_reducible refine k_makeG ?_
  | with_reducible refine k_meth0 ?_
  | with_reducible refine k_callS ?_
  | with_reducible refine k_callE ?_
  | with_reducible refine k_dget ?_
  | with_reducible refine k_din ?_
  | with_reducible refine k_dnotin ?_
  | with_reducible refine k_dput ?_
  | with_reducible refine k_dpop ?_
  | with_reducible refine k_dget2 ?_
  | with_reducible refine k_tup ?_
  | with_reducible refine k_lst ?_
  | with_reducible refine k_dnew ?_
  | ((with_reducible refine' l_tup ?hx ?_); (case hx => simp only [List.length_cons, List.length_nil]; decide))
  | ((with_reducible refine' l_lst ?hx ?_); (case hx => simp only [List.length_cons, List.length_nil]; decide))
  | ((with_reducible refine' l_isD ?hx ?_); (case hx => wtm_at "hf"))
  | ((with_reducible refine' l_dinI ?hx ?_); (case hx => wtm_at "hf"))
  | ((with_reducible refine' l_dinS ?hx ?_); (case hx => wtm_at "hf"))
  | ((with_reducible refine' l_dnotinI ?hx ?_); (case hx => wtm_at "hf"))
  | ((with_reducible refine' l_dnotinS ?hx ?_); (case hx => wtm_at "hf"))
  | ((with_reducible refine' l_dputI ?hr ?hx ?hz ?hy ?hw ?_); (case hr => wtm_at "run"); (case hx => wtm_at "hf"); (case hy => wtm_at "pk"); (case hz => wtm_at "sz"); (case hw => wtm_at "wr"); intro _ _ _ _)
  | ((with_reducible refine' l_dputS ?hr ?hx ?hz ?hy ?hw ?_); (case hr => wtm_at "run"); (case hx => wtm_at "hf"); (case hy => wtm_at "pk"); (case hz => wtm_at "sz"); (case hw => wtm_at "wr"); intro _ _ _ _)
  | ((with_reducible refine' l_dpopI ?hr ?hx ?hz ?hy ?hw ?_); (case hr => wtm_at "run"); (case hx => wtm_at "hf"); (case hy => wtm_at "pk"); (case hz => wtm_at "vk"); (case hw => wtm_at "wr"); intro _ _ _ _)
  | ((with_reducible refine' l_dpopS ?hr ?hx ?hz ?hy ?hw ?_); (case hr => wtm_at "run"); (case hx => wtm_at "hf"); (case hy => wtm_at "pk"); (case hz => wtm_at "vk"); (case hw => wtm_at "wr"); intro _ _ _ _)
  | ((with_reducible refine' l_dgetI ?hx ?hz ?_); (case hx => wtm_at "hf"); (case hz => wtm_at "vk"))
  | ((with_reducible refine' l_dgetS ?hx ?hz ?_); (case hx => wtm_at "hf"); (case hz => wtm_at "vk"))
  | ((with_reducible refine' l_dgetIF ?hx ?hz ?_); (case hx => wtm_at "hf"); (case hz => wtm_at "vk"))
  | ((with_reducible refine' l_dgetSF ?hx ?hz ?_); (case hx => wtm_at "hf"); (case hz => wtm_at "vk"))
  | ((with_reducible refine' k_disp ?hr ?_); (case hr => wtm_at "run"); intro _ _ _ _ _ _ _ _)
  | with_reducible refine k_pcons ?_
  | with_reducible refine k_pnil ?_
  | ((with_reducible refine' l_disp ?hr ?hx ?hu ?hv ?hy ?hw ?_); (case hr => wtm_at "run"); (case hx => wtm_at "hf"); (case hu => exact rfl); (case hv => simp only [List.length_map, List.length_cons, List.length_nil]; decide); (case hy => wtm_at "rm"); (case hw => wtm_at "wr"); intro _ _ _ _)
  | ((with_reducible refine' l_append ?hr ?hx ?hz ?hw ?_); (case hr => wtm_at "run"); (case hx => wtm_at "hf"); (case hz => wtm_at "sz"); (case hw => wtm_at "wr"); intro _ _ _ _)
  | ((with_reducible refine' l_isEt ?hx ?_); (case hx => first | exact isD (ExcK.kit (by assumption) _ (by wtm_at "mem") _ (by wtm_at "mem")) | exact isC (ExcK.kit (by assumption) _ (by wtm_at "mem") _ (by wtm_at "mem")) (by decide)))
  | ((with_reducible refine' l_isEV ?hx ?_); (case hx => exact ExcK.kitV (by assumption) _ (by wtm_at "mem")))
  | ((with_reducible refine' l_isiI ?hx ?_); (case hx => first | rfl | assumption))
  | ((with_reducible refine' l_isiB ?hx ?_); (case hx => first | rfl | assumption))
  | with_reducible refine l_isiSS ?_
  | ((with_reducible refine' l_isiS ?hx ?_); (case hx => first | rfl | assumption))
  | ((with_reducible refine' l_isiL ?hx ?_); (case hx => wtm_at "hf"))
  | ((with_reducible refine' l_isiT ?hx ?_); (case hx => wtm_at "hf"))
  | ((with_reducible refine' l_lenL ?hx ?_); (case hx => wtm_at "sq"))
  | ((with_reducible refine' l_lenT ?hx ?_); (case hx => wtm_at "st"))
  | ((with_reducible refine' l_ixL ?hx ?hy ?_); (case hx => wtm_at "sq"); (case hy => wtm_at "ix"))
  | ((with_reducible refine' l_ixT ?hx ?hy ?_); (case hx => wtm_at "st"); (case hy => wtm_at "ix"))
  | with_reducible refine k_m1 ?_
  | with_reducible refine l_strX ?_
  | with_reducible refine l_sw ?_
  | ((with_reducible refine' x_addS ?hx ?hy ?hz ?_); (case hx => wtm_at "tx"); (case hy => wtm_at "tx"); (case hz => decide))
  | ((with_reducible refine' x_slS ?hx ?hz ?_); (case hx => wtm_at "tx"); (case hz => decide))
  | ((with_reducible refine' x_lenX ?hx ?hz ?_); (case hx => wtm_at "tx"); (case hz => decide))
  | with_reducible refine l_max ?_
  | with_reducible refine l_min ?_
  | with_reducible refine l_abs ?_
  | with_reducible refine k_sl ?_
  | with_reducible refine k_part ?_
  | with_reducible refine l_part ?_
  | with_reducible refine k_nopart ?_
  | with_reducible refine k_yes ?_
  | ((with_reducible refine' l_slL ?hr ?hx ?_); (case hr => wtm_at "run"); (case hx => wtm_at "sq"); intro _ _ _ _ _ _ _ _)
  | with_reducible refine k_lcL ?_
  | with_reducible refine k_lcR ?_
  | with_reducible refine k_for ?_
  | with_reducible refine k_rng1 ?_
  | with_reducible refine k_rng2 ?_
  | with_reducible refine k_rng3 ?_
  | with_reducible refine k_makeS ?_
  | ((with_reducible refine' l_make ?hr ?_); (case hr => wtm_at "run"); intro _ _ _ _ _ _ _ _ _)
  | with_reducible refine k_ntt ?_
  | with_reducible refine k_ntf ?_
  | with_reducible refine k_clear ?_
  | ((with_reducible refine' l_clear ?hr ?hx ?hw ?_); (case hr => wtm_at "run"); (case hx => wtm_at "hf"); (case hw => wtm_at "wr"); intro _ _ _ _)
  | with_reducible refine k_ift ?_
  | with_reducible refine k_iff ?_
  | with_reducible refine g_name ?_
  | fail)
section
variable {P : Program} {w : World} {K : PySem.W.Frag} {mg : Str → Option Value} {base : Heap}
def sp_l_whole (K : PySem.W.Frag) : Sp := fun vs H Q _ => ∃ v, vs = [v] ∧ simpV v = true ∧ Q (.bl (isI v)) H
theorem sc_l_whole : FnScope ["_law_found"] ["_law_found"] (defScope s_l_whole) := ⟨rfl, rfl, rfl, by decide +kernel, rfl, by decide +kernel, by decide +kernel⟩
theorem ok_l_whole (T : FX K mg) : FnOk P w K mg base (L2N.CX P w) 1 (He.ga K "_law_whole") (fdAt K ("_law_whole", none)) ["_law_found"] (sp_l_whole K) := by
  refine FunD.ok T.F_l_whole sc_l_whole (fun vs H Q E h => ?_) (fun cdv A outer s H vs Q E hr h => ?_)
  · (repeat (obtain ⟨_, h⟩ := h)); subst_vars; rfl
  · have hu := hu_of hr
    have hu64 := hr.units
    refine ⟨_,
      (pss_one
        (ps_ret (pe_and (pe_callB call_isi (by rfl) T.f_isinstance (by decide +kernel) (pa_cons (pv 0) (pa_cons (pe_bltT (n := "int") rfl T.f_int (by decide +kernel)) pa_nil))) (pe_one (pe_not (pe_callB call_isi (by rfl) T.f_isinstance (by decide +kernel) (pa_cons (pv 0) (pa_cons (pe_bltT (n := "bool") rfl T.f_bool (by decide +kernel)) pa_nil)))))))), ?_⟩
    obtain ⟨v, rfl, hv, k⟩ := h
    repeat wtm_at "k"
    cases v with
    | int i =>
      refine k_ift ?_
      repeat wtm_at "k"
      exact k
    | bl b =>
      refine k_ift ?_
      repeat wtm_at "k"
      exact k
    | non => exact k_iff k
    | str x => exact k_iff k
    | _ => cases hv
/-- script[k], or 0 -/
def cellD (ns : List Int) (k : Int) : Int := ns.getD k.toNat 0
def sp_l_cell_at (K : PySem.W.Frag) : Sp := fun vs H Q _ => ∃ a ns k, vs = [.ref a, .int k] ∧ 0 ≤ k ∧ SqL K H a (ns.map V.int) ∧ Q (.int (cellD ns k)) H
theorem sc_l_cell_at : FnScope ["_law_script", "_law_k"] ["_law_script", "_law_k"] (defScope s_l_cell_at) := ⟨rfl, rfl, rfl, by decide +kernel, rfl, by decide +kernel, by decide +kernel⟩
theorem ok_l_cell_at (T : FX K mg) : FnOk P w K mg base (L2N.CX P w) 1 (He.ga K "_law_cell_at") (fdAt K ("_law_cell_at", none)) ["_law_script", "_law_k"] (sp_l_cell_at K) := by
  refine FunD.ok T.F_l_cell_at sc_l_cell_at (fun vs H Q E h => ?_) (fun cdv A outer s H vs Q E hr h => ?_)
  · (repeat (obtain ⟨_, h⟩ := h)); subst_vars; rfl
  · have hu := hu_of hr
    have hu64 := hr.units
    refine ⟨_,
      (pss_cons
        (ps_if (pt_cmpR oIlt (pv 1) (pe_callB oLen (by rfl) T.f_len PySem.boot_len (pa_cons (pv 0) pa_nil)) (nomark _))
          (pss_one
            (ps_ret (pe_ix ix_list (pv 0) (pv 1) (fun _ _ => rfl))))
          pss_nil)
      (pss_one
        (ps_ret pe_int))), ?_⟩
    obtain ⟨a, ns, k, rfl, h0, hS, kk⟩ := h
    repeat wtm_at "k"
    rw [List.length_map]
    refine k_ifd (fun c => ?_) fun c => ?_
    · repeat wtm_at "k"
      refine l_ixL hS (atI_map (d := 0) (by omega) c) ?_
      exact kk
    · have e : cellD ns k = 0 := by
        unfold cellD
        rw [List.getD_eq_getElem?_getD, List.getElem?_eq_none (by omega)]
        rfl
      repeat wtm_at "k"
      rw [e] at kk
      exact kk
theorem k_whole {H : Hp} {Q : VK} {E : XK} {v : V} (h : simpV v = true) (q : Q (.bl (isI v)) H) : sp_l_whole K [v] H Q E := ⟨v, rfl, h, q⟩
theorem k_wholeI {H : Hp} {Q : VK} {E : XK} {i : Int} (q : Q (.bl true) H) : sp_l_whole K [.int i] H Q E := ⟨.int i, rfl, rfl, q⟩
theorem k_cell {H : Hp} {Q : VK} {E : XK} {a : Addr} {ns : List Int} {k : Int} (h0 : 0 ≤ k) (hS : SqL K H a (ns.map V.int)) (q : Q (.int (cellD ns k)) H) : sp_l_cell_at K [.ref a, .int k] H Q E := ⟨a, ns, k, rfl, h0, hS, q⟩
end
end LW

set_option maxHeartbeats 4000000
namespace LW
open PySem PySem.Spec PyProof.Rows L2
local macro_rules | `(tactic| wtm_at "vk") => `(tactic| first
  | assumption
  | with_reducible exact rv_mine_rows
  | with_reducible exact rv_mine_gone
  | with_reducible exact rv_mine_told
  | exact valV_iv (by assumption)
  | fail)
local macro_rules | `(tactic| wtm_at "pk") => `(tactic| first
  | with_reducible exact putK_iv
  | with_reducible exact dropK_ik
  | with_reducible exact dropK_sk
  | with_reducible exact rp_mine_rows
  | with_reducible exact rp_mine_gone
  | with_reducible exact rp_mine_told
  | assumption
  | fail)
local macro_rules | `(tactic| wtm_at "rm") => `(tactic| first
  | with_reducible exact rm_mine
  | exact rfl
  | fail)
local macro_rules | `(tactic| wtm_at "rl") => `(tactic| first
  | with_reducible exact rl_mine
  | with_reducible assumption
  | fail)
local macro_rules | `(tactic| wtm_at "lk") => `(tactic| with_reducible first
  | exact lk_Log_rows
  | exact lk_Log_gone
  | fail)
local macro_rules | `(tactic| wtm_at "lm") => `(tactic| with_reducible first
  | exact lm_Log_note
  | exact lm_Log_last
  | exact lm_Log_first
  | exact lm_Log_wanted
  | exact lm_Log_forget
  | fail)
local macro_rules | `(tactic| wtm_at "pt") => `(tactic| with_reducible first
  | exact pt_Log_rows
  | exact pt_Log_gone
  | exact pi_Log_0
  | exact pi_Log_1
  | fail)
local macro_rules | `(tactic| wtm_at "lz") => `(tactic| with_reducible first
  | exact lz_Log
  | (simp only [List.length_cons, List.length_nil]; decide)
  | exact (by decide)
  | fail)
local macro_rules | `(tactic| wtm_at "hf") => `(tactic| first
  | assumption
  | (refine' hf_s ?hs ?hx; (case hs => assumption); (case hx => wtm_at "hf"))
  | (refine' hf_n ?hs ?hx ?ne; (case hs => assumption); (case hx => wtm_at "hf"); (case ne => wtm_at "ne"))
  | (refine' hf_e ?hs ?hx ?hy; (case hs => assumption); (case hx => wtm_at "hf"); (case hy => wtm_at "nin"))
  | fail)
local macro_rules | `(tactic| wtm_at "ne") => `(tactic| first
  | assumption
  | (apply Ne.symm; assumption)
  | (refine' ne_of_none ?hx ?hy; (case hy => assumption); (case hx => wtm_at "hf"))
  | (refine' (ne_of_none ?hx ?hy).symm; (case hy => assumption); (case hx => wtm_at "hf"))
  | (refine' ne_of ?hx ?hy ?hz; (case hx => assumption); (case hy => assumption); (case hz => intro z; cases z))
  | fail)
local macro_rules | `(tactic| wtm_at "nin") => `(tactic| first
  | assumption
  | exact notin_nil
  | (refine' notin_cons ?hx ?hy; (case hx => wtm_at "ne"); (case hy => wtm_at "nin"))
  | fail)
local macro_rules | `(tactic| wtm_at "mem") => `(tactic| first
  | assumption
  | exact List.mem_cons_self
  | (refine' List.mem_cons_of_mem _ ?hx; (case hx => wtm_at "mem"))
  | fail)
local macro_rules | `(tactic| wtm_at "wr") => `(tactic| first
  | exact Or.inr (by assumption)
  | exact Or.inl (by wtm_at "mem")
  | fail)
local macro_rules | `(tactic| wtm_at "lv") => `(tactic| first
  | assumption
  | exact Live.nil
  | (refine' Live.cons ?hx ?hy; (case hx => wtm_at "hf"); (case hy => wtm_at "lv"))
  | fail)
local macro_rules | `(tactic| wtm_at "run") => `(tactic| first
  | assumption
  | (refine' Run.same ?hx ?hy; (case hy => assumption); (case hx => wtm_at "run"))
  | fail)
local macro_rules | `(tactic| wtm_at "sq") => `(tactic| first
  | assumption
  | (refine' Run.seq ?hx ?hy; (case hx => assumption); (case hy => assumption))
  | (refine' SqL.of ?hx; (case hx => wtm_at "hf"))
  | (refine' Same.seq ?hx ?hy; (case hx => assumption); (case hy => wtm_at "sq"))
  | (refine' Ext.seqL ?hx ?hz ?hy; (case hx => assumption); (case hy => wtm_at "sq"); (case hz => wtm_at "nin"))
  | fail)
local macro_rules | `(tactic| wtm_at "st") => `(tactic| first
  | assumption
  | (refine' SqT.of ?hx; (case hx => wtm_at "hf"))
  | fail)
local macro_rules | `(tactic| wtm_at "ix") => `(tactic| first
  | assumption
  | exact rfl
  | fail)
local macro_rules | `(tactic| wtm_at "sz") => `(tactic| first
  | wtm_at "rl"
  | with_reducible assumption
  | (rw [ik_len]; wtm_at "sz")
  | (rw [sk_len]; wtm_at "sz")
  | exact small1000 (by assumption)
  | exact small1000 (by omega)
  | exact small1000 (by simp only [List.length_cons, List.length_nil, List.length_append, List.length_map]; omega)
  | fail)
local macro_rules | `(tactic| wtm_at "tx") => `(tactic| first
  | assumption
  | ((with_reducible refine' Tx.app ?hx ?hy); (case hx => wtm_at "tx"); (case hy => wtm_at "tx"))
  | ((with_reducible refine' Tx.cut ?hx); (case hx => wtm_at "tx"))
  | with_reducible exact Tx.nil
  | fail)
local macro_rules | `(tactic| wtm_at "k") => `(tactic| first
  | with_reducible refine k_seq ?_
  | with_reducible refine k_next ?_
  | with_reducible refine k_asg ?_
  | with_reducible refine k_ret ?_
  | with_reducible refine k_retN ?_
  | with_reducible refine k_drop ?_
  | with_reducible refine k_ifS ?_
  | ((with_reducible refine' k_var ?hx ?_); (case hx => exact rfl))
  | with_reducible refine k_c ?_
  | with_reducible refine k_negc ?_
  | with_reducible refine k_neg ?_
  | with_reducible refine l_neg ?_
  | with_reducible refine k_op ?_
  | with_reducible refine k_cb ?_
  | with_reducible refine k_nil ?_
  | with_reducible refine k_cons ?_
  | with_reducible refine k_test ?_
  | with_reducible refine k_B ?_
  | with_reducible refine k_not ?_
  | with_reducible refine k_and ?_
  | with_reducible refine k_or ?_
  | with_reducible refine k_notV ?_
  | with_reducible refine k_andV ?_
  | with_reducible refine k_orV ?_
  | with_reducible refine k_bl ?_
  | with_reducible refine k_add ?_
  | with_reducible refine k_sub ?_
  | ((with_reducible refine' k_mod ?hx ?_); (case hx => first | decide | omega))
  | ((with_reducible refine' k_div ?hx ?_); (case hx => exact ⟨by decide, by decide⟩))
  | ((with_reducible refine' k_mul ?hx ?_); (case hx => first | exact Or.inl ⟨by decide, by decide⟩ | exact Or.inr ⟨by decide, by decide⟩ | exact Or.inl ⟨by omega, by omega⟩))
  | with_reducible refine k_p6 ?_
  | with_reducible refine k_p9 ?_
  | with_reducible refine k_p12 ?_
  | with_reducible refine k_p13 ?_
  | with_reducible refine k_p18 ?_
  | with_reducible refine k_p30 ?_
  | with_reducible refine k_lt ?_
  | with_reducible refine k_le ?_
  | with_reducible refine k_gt ?_
  | with_reducible refine k_ge ?_
  | with_reducible refine k_eq ?_
  | with_reducible refine k_ne ?_
  | with_reducible refine k_seqS ?_
  | with_reducible refine k_neS ?_
  | with_reducible refine k_neB ?_
  | with_reducible refine k_isN ?_
  | with_reducible refine k_noN ?_
  | with_reducible refine k_fld ?_
  | ((with_reducible refine' l_fld ?hx ?hy ?_); (case hx => wtm_at "hf"); (case hy => wtm_at "lk"))
  | with_reducible refine k_fldS ?_
  | ((with_reducible refine' l_fldS ?hr ?hx ?hz ?hy ?hw ?_); (case hr => wtm_at "run"); (case hx => wtm_at "hf"); (case hy => wtm_at "pt"); (case hz => wtm_at "lz"); (case hw => wtm_at "wr"); intro _ _ _ _)
  | ((with_reducible refine' l_new ?hr ?_); (case hr => wtm_at "run"); intro _ _ _ _ _ _ _ _)
  | with_reducible refine k_append ?_
  | ((with_reducible refine' l_tyL ?hx ?_); (case hx => wtm_at "hf"))
  | ((with_reducible refine' l_ins ?hx ?hy ?_); (case hx => wtm_at "hf"); (case hy => wtm_at "lm"))
  | with_reducible refine k_methS ?_
  | with_reducible refine k_methG ?_
  | with_reducible refine k_makeG ?_
  | with_reducible refine k_meth0 ?_
  | with_reducible refine k_callS ?_
  | with_reducible refine k_callE ?_
  | with_reducible refine k_dget ?_
  | with_reducible refine k_din ?_
  | with_reducible refine k_dnotin ?_
  | with_reducible refine k_dput ?_
  | with_reducible refine k_dpop ?_
  | with_reducible refine k_dget2 ?_
  | with_reducible refine k_tup ?_
  | with_reducible refine k_lst ?_
  | with_reducible refine k_dnew ?_
  | ((with_reducible refine' l_tup ?hx ?_); (case hx => simp only [List.length_cons, List.length_nil]; decide))
  | ((with_reducible refine' l_lst ?hx ?_); (case hx => simp only [List.length_cons, List.length_nil]; decide))
  | ((with_reducible refine' l_isD ?hx ?_); (case hx => wtm_at "hf"))
  | ((with_reducible refine' l_dinI ?hx ?_); (case hx => wtm_at "hf"))
  | ((with_reducible refine' l_dinS ?hx ?_); (case hx => wtm_at "hf"))
  | ((with_reducible refine' l_dnotinI ?hx ?_); (case hx => wtm_at "hf"))
  | ((with_reducible refine' l_dnotinS ?hx ?_); (case hx => wtm_at "hf"))
  | ((with_reducible refine' l_dputI ?hr ?hx ?hz ?hy ?hw ?_); (case hr => wtm_at "run"); (case hx => wtm_at "hf"); (case hy => wtm_at "pk"); (case hz => wtm_at "sz"); (case hw => wtm_at "wr"); intro _ _ _ _)
  | ((with_reducible refine' l_dputS ?hr ?hx ?hz ?hy ?hw ?_); (case hr => wtm_at "run"); (case hx => wtm_at "hf"); (case hy => wtm_at "pk"); (case hz => wtm_at "sz"); (case hw => wtm_at "wr"); intro _ _ _ _)
  | ((with_reducible refine' l_dpopI ?hr ?hx ?hz ?hy ?hw ?_); (case hr => wtm_at "run"); (case hx => wtm_at "hf"); (case hy => wtm_at "pk"); (case hz => wtm_at "vk"); (case hw => wtm_at "wr"); intro _ _ _ _)
  | ((with_reducible refine' l_dpopS ?hr ?hx ?hz ?hy ?hw ?_); (case hr => wtm_at "run"); (case hx => wtm_at "hf"); (case hy => wtm_at "pk"); (case hz => wtm_at "vk"); (case hw => wtm_at "wr"); intro _ _ _ _)
  | ((with_reducible refine' l_dgetI ?hx ?hz ?_); (case hx => wtm_at "hf"); (case hz => wtm_at "vk"))
  | ((with_reducible refine' l_dgetS ?hx ?hz ?_); (case hx => wtm_at "hf"); (case hz => wtm_at "vk"))
  | ((with_reducible refine' l_dgetIF ?hx ?hz ?_); (case hx => wtm_at "hf"); (case hz => wtm_at "vk"))
  | ((with_reducible refine' l_dgetSF ?hx ?hz ?_); (case hx => wtm_at "hf"); (case hz => wtm_at "vk"))
  | ((with_reducible refine' k_disp ?hr ?_); (case hr => wtm_at "run"); intro _ _ _ _ _ _ _ _)
  | with_reducible refine k_pcons ?_
  | with_reducible refine k_pnil ?_
  | ((with_reducible refine' l_disp ?hr ?hx ?hu ?hv ?hy ?hw ?_); (case hr => wtm_at "run"); (case hx => wtm_at "hf"); (case hu => exact rfl); (case hv => simp only [List.length_map, List.length_cons, List.length_nil]; decide); (case hy => wtm_at "rm"); (case hw => wtm_at "wr"); intro _ _ _ _)
  | ((with_reducible refine' l_append ?hr ?hx ?hz ?hw ?_); (case hr => wtm_at "run"); (case hx => wtm_at "hf"); (case hz => wtm_at "sz"); (case hw => wtm_at "wr"); intro _ _ _ _)
  | ((with_reducible refine' l_isEt ?hx ?_); (case hx => first | exact isD (ExcK.kit (by assumption) _ (by wtm_at "mem") _ (by wtm_at "mem")) | exact isC (ExcK.kit (by assumption) _ (by wtm_at "mem") _ (by wtm_at "mem")) (by decide)))
  | ((with_reducible refine' l_isEV ?hx ?_); (case hx => exact ExcK.kitV (by assumption) _ (by wtm_at "mem")))
  | ((with_reducible refine' l_isiI ?hx ?_); (case hx => first | rfl | assumption))
  | ((with_reducible refine' l_isiB ?hx ?_); (case hx => first | rfl | assumption))
  | with_reducible refine l_isiSS ?_
  | ((with_reducible refine' l_isiS ?hx ?_); (case hx => first | rfl | assumption))
  | ((with_reducible refine' l_isiL ?hx ?_); (case hx => wtm_at "hf"))
  | ((with_reducible refine' l_isiT ?hx ?_); (case hx => wtm_at "hf"))
  | ((with_reducible refine' l_lenL ?hx ?_); (case hx => wtm_at "sq"))
  | ((with_reducible refine' l_lenT ?hx ?_); (case hx => wtm_at "st"))
  | ((with_reducible refine' l_ixL ?hx ?hy ?_); (case hx => wtm_at "sq"); (case hy => wtm_at "ix"))
  | ((with_reducible refine' l_ixT ?hx ?hy ?_); (case hx => wtm_at "st"); (case hy => wtm_at "ix"))
  | with_reducible refine k_m1 ?_
  | with_reducible refine l_strX ?_
  | with_reducible refine l_sw ?_
  | ((with_reducible refine' x_addS ?hx ?hy ?hz ?_); (case hx => wtm_at "tx"); (case hy => wtm_at "tx"); (case hz => decide))
  | ((with_reducible refine' x_slS ?hx ?hz ?_); (case hx => wtm_at "tx"); (case hz => decide))
  | ((with_reducible refine' x_lenX ?hx ?hz ?_); (case hx => wtm_at "tx"); (case hz => decide))
  | with_reducible refine l_max ?_
  | with_reducible refine l_min ?_
  | with_reducible refine l_abs ?_
  | with_reducible refine k_sl ?_
  | with_reducible refine k_part ?_
  | with_reducible refine l_part ?_
  | with_reducible refine k_nopart ?_
  | with_reducible refine k_yes ?_
  | ((with_reducible refine' l_slL ?hr ?hx ?_); (case hr => wtm_at "run"); (case hx => wtm_at "sq"); intro _ _ _ _ _ _ _ _)
  | with_reducible refine k_lcL ?_
  | with_reducible refine k_lcR ?_
  | with_reducible refine k_for ?_
  | with_reducible refine k_rng1 ?_
  | with_reducible refine k_rng2 ?_
  | with_reducible refine k_rng3 ?_
  | with_reducible refine k_makeS ?_
  | ((with_reducible refine' l_make ?hr ?_); (case hr => wtm_at "run"); intro _ _ _ _ _ _ _ _ _)
  | with_reducible refine k_ntt ?_
  | with_reducible refine k_ntf ?_
  | with_reducible refine k_clear ?_
  | ((with_reducible refine' l_clear ?hr ?hx ?hw ?_); (case hr => wtm_at "run"); (case hx => wtm_at "hf"); (case hw => wtm_at "wr"); intro _ _ _ _)
  | with_reducible refine k_ift ?_
  | with_reducible refine k_iff ?_
  | with_reducible refine g_name ?_
  | fail)
/-! ### the log -/
structure LogS where
  rows : List Row
  gone : Int
def LogS.last (L : LogS) : Int := L.gone + L.rows.length
def LogS.note (L : LogS) (r : Row) : LogS := ⟨L.rows ++ [r], L.gone⟩
def LogS.wantedAll (L : LogS) (pre : Str) (behind : Int) : List Row := L.rows.filter fun r => decide (behind < r.n) && begins r.k pre
def LogS.wanted (L : LogS) (pre : Str) (behind most : Int) : List Row := (L.wantedAll pre behind).take most.toNat
def LogS.kept (L : LogS) (upto : Int) : List Row := L.rows.filter fun r => decide (upto < r.n)
def LogS.many (L : LogS) (upto : Int) : Int := L.rows.length - (L.kept upto).length
def LogS.forget (L : LogS) (upto : Int) : LogS := ⟨L.kept upto, L.gone + L.many upto⟩
def LogAt (K : PySem.W.Frag) (H : Hp) (p : Addr) (F : List Addr) (L : LogS) : Prop :=
  ∃ pr dx ys, F = [p, pr] ∧ p ≠ pr ∧ H p = some (.ins (He.ga K "Log") dx (fl_Log (.ref pr) (.int L.gone))) ∧ H pr = some (.lst ys) ∧ Paired (IsR H) ys L.rows
theorem LogAt.ext {K : PySem.W.Frag} {H H' : Hp} {p : Addr} {F G : List Addr} {L : LogS} (a : LogAt K H p F L) (e : Ext G H H') (h : Apart F G) : LogAt K H' p F L := by
  obtain ⟨pr, dx, ys, rfl, n, h1, h2, h3⟩ := a
  exact ⟨pr, dx, ys, rfl, n, e.keep _ _ h1 (h _ (by simp)), e.keep _ _ h2 (h _ (by simp)), keepT e.tups h3⟩
theorem LogAt.live {K : PySem.W.Frag} {H : Hp} {p : Addr} {F : List Addr} {L : LogS} (a : LogAt K H p F L) : Live H F := by
  obtain ⟨pr, dx, ys, rfl, n, h1, h2, h3⟩ := a
  exact Live.cons h1 (Live.cons h2 Live.nil)
def sp_Log_init (K : PySem.W.Frag) : Sp := fun vs H Q _ => ∃ p dx, vs = [.ref p] ∧ H p = some (.ins (He.ga K "Log") dx []) ∧
  ∀ H' F, LogAt K H' p F ⟨[], 0⟩ → Grow H [p] F → Ext [p] H H' → Q .non H'
section
variable {P : Program} {w : World} {K : PySem.W.Frag} {mg : Str → Option Value} {base : Heap}
theorem sc_Log_init : FnScope ["self"] ["self"] (defScope s_Log_init) := ⟨rfl, rfl, rfl, by decide +kernel, rfl, by decide +kernel, by decide +kernel⟩
theorem ok_Log_init (T : FX K mg) : FnOk P w K mg base (L2N.CX P w) 1 (He.ma K (He.ga K "Log") "__init__") (fdAt K ("Log", some "__init__")) ["self"] (sp_Log_init K) := by
  refine FunD.ok T.F_Log_init sc_Log_init (fun vs H Q E h => ?_) (fun cdv A outer s H vs Q E hr h => ?_)
  · (repeat (obtain ⟨_, h⟩ := h)); subst_vars; rfl
  · have hu := hu_of hr
    have hu64 := hr.units
    refine ⟨_,
      (pss_cons
        (ps_fldC T.cl_Log T.na_Log_rows (pv 0) (pe_lst pa_nil))
      (pss_one
        (ps_fldC T.cl_Log T.na_Log_gone (pv 0) pe_int))), ?_⟩
    obtain ⟨p, dx, rfl, hp, k⟩ := h
    have R0 : Run [p] H H := Run.start (by wtm_at "lv")
    repeat wtm_at "k"
    rename_i pr H1 f1 f2 f3 r1 h1 s1 H2 r2 h2 n2 H3 r3 h3 n3
    refine k _ _ ⟨pr, dx, [], rfl, ?g1, ?g2, ?g3, .nil⟩ ?g4 (Run.ext (by assumption))
    case g1 => wtm_at "ne"
    case g2 => wtm_at "hf"
    case g3 => wtm_at "hf"
    case g4 => intro c hc; simp only [List.mem_cons, List.not_mem_nil, or_false] at hc; rcases hc with rfl | rfl <;> simp [*]
def sp_Log_last (K : PySem.W.Frag) : Sp := fun vs H Q _ => ∃ p F L, vs = [.ref p] ∧ LogAt K H p F L ∧ Q (.int L.last) H
theorem sc_Log_last : FnScope ["self"] ["self"] (defScope s_Log_last) := ⟨rfl, rfl, rfl, by decide +kernel, rfl, by decide +kernel, by decide +kernel⟩
theorem ok_Log_last (T : FX K mg) : FnOk P w K mg base (L2N.CX P w) 1 (He.ma K (He.ga K "Log") "last") (fdAt K ("Log", some "last")) ["self"] (sp_Log_last K) := by
  refine FunD.ok T.F_Log_last sc_Log_last (fun vs H Q E h => ?_) (fun cdv A outer s H vs Q E hr h => ?_)
  · (repeat (obtain ⟨_, h⟩ := h)); subst_vars; rfl
  · have hu := hu_of hr
    have hu64 := hr.units
    refine ⟨_,
      (pss_one
        (ps_ret (pe_op oIadd (pe_fldC T.cl_Log T.na_Log_gone (pv 0)) (pe_callB oLen (by rfl) T.f_len PySem.boot_len (pa_cons (pe_fldC T.cl_Log T.na_Log_rows (pv 0)) pa_nil))))), ?_⟩
    obtain ⟨p, F, L, rfl, ⟨pr, dx, ys, rfl, n, h1, h2, h3⟩, k⟩ := h
    have el : (ys.length : Int) = L.rows.length := by rw [Paired.length h3]
    repeat wtm_at "k"
    rw [el]
    exact k
def sp_Log_first (K : PySem.W.Frag) : Sp := fun vs H Q _ => ∃ p F L, vs = [.ref p] ∧ LogAt K H p F L ∧ Q (.int (L.gone + 1)) H
theorem sc_Log_first : FnScope ["self"] ["self"] (defScope s_Log_first) := ⟨rfl, rfl, rfl, by decide +kernel, rfl, by decide +kernel, by decide +kernel⟩
theorem ok_Log_first (T : FX K mg) : FnOk P w K mg base (L2N.CX P w) 1 (He.ma K (He.ga K "Log") "first") (fdAt K ("Log", some "first")) ["self"] (sp_Log_first K) := by
  refine FunD.ok T.F_Log_first sc_Log_first (fun vs H Q E h => ?_) (fun cdv A outer s H vs Q E hr h => ?_)
  · (repeat (obtain ⟨_, h⟩ := h)); subst_vars; rfl
  · have hu := hu_of hr
    have hu64 := hr.units
    refine ⟨_,
      (pss_one
        (ps_ret (pe_op oIadd (pe_fldC T.cl_Log T.na_Log_gone (pv 0)) pe_int))), ?_⟩
    obtain ⟨p, F, L, rfl, ⟨pr, dx, ys, rfl, n, h1, h2, h3⟩, k⟩ := h
    repeat wtm_at "k"
    exact k
def sp_Log_note (K : PySem.W.Frag) : Sp := fun vs H Q _ => ∃ p F L t w k v, ∃ (ow : Tx 1000 w) (ok : Tx 1000 k) (ov : Tx 1000 v), vs = [.ref p, .int t, .str w, .str k, .str v] ∧ LogAt K H p F L ∧ L.rows.length ≤ 1000 ∧
  ∀ H', LogAt K H' p F (L.note ⟨L.last + 1, t, w, k, v, ow, ok, ov⟩) → Ext F H H' → Q (.int (L.last + 1)) H'
theorem sc_Log_note : FnScope ["self", "tick", "word", "key", "value", "number"] ["self", "tick", "word", "key", "value"] (defScope s_Log_note) := ⟨rfl, rfl, rfl, by decide +kernel, rfl, by decide +kernel, by decide +kernel⟩
theorem ok_Log_note (T : FX K mg) : FnOk P w K mg base (L2N.CX P w) 2 (He.ma K (He.ga K "Log") "note") (fdAt K ("Log", some "note")) ["self", "tick", "word", "key", "value"] (sp_Log_note K) := by
  refine FunD.ok T.F_Log_note sc_Log_note (fun vs H Q E h => ?_) (fun cdv A outer s H vs Q E hr h => ?_)
  · (repeat (obtain ⟨_, h⟩ := h)); subst_vars; rfl
  · have hu := hu_of hr
    have hu64 := hr.units
    refine ⟨_,
      (pss_cons
        (ps_set (i := 5) sc_Log_note.nd rfl (Or.inl rfl) (pe_op oIadd (pe_meth0S (pv 0) T.cl_Log T.me_Log_last (ok_Log_last T) (hr.mono (j := 1) (by decide)) T.b_Log_last (fun σ => L2N.passAt tkd σ)) pe_int))
      (pss_cons
        (ps_expr (pe_bm PySem.F.plainAttrs_list PySem.F.slot_list_append PySem.F.type_list_append mt_append (pe_fldC T.cl_Log T.na_Log_rows (pv 0)) (pa_cons (pe_tup (pa_cons (pv 5) (pa_cons (pv 1) (pa_cons (pv 2) (pa_cons (pv 3) (pa_cons (pv 4) pa_nil)))))) pa_nil)))
      (pss_one
        (ps_ret (pv 5))))), ?_⟩
    obtain ⟨p, F, L, t, w, key, v, ow, ok, ov, rfl, hL, z, k⟩ := h
    obtain ⟨pr, dx, ys, rfl, n, h1, h2, h3⟩ := id hL
    have el : ys.length = L.rows.length := Paired.length h3
    have zy : ys.length ≤ 1000 := by omega
    have R0 : Run [p, pr] H H := Run.start (by wtm_at "lv")
    repeat wtm_at "k"
    refine ⟨p, _, L, rfl, hL, ?_⟩
    repeat wtm_at "k"
    rename_i t1 H1 f1 f2 f3 r1 g1 s1 H2 r2 g2 n2
    refine k _ ⟨pr, dx, _, rfl, n, ?g1, g2, ?g3⟩ (Run.ext (by assumption))
    case g1 => wtm_at "hf"
    case g3 =>
      have tk := (Run.ext (F := [p, pr]) (H0 := H) (H := H2) (by assumption)).tups
      exact snocT (keepT tk h3) ⟨t1, rfl, by wtm_at "hf"⟩
def sp_Log_wanted (K : PySem.W.Frag) : Sp := fun vs H Q _ => ∃ p F L pre behind most, vs = [.ref p, .str pre, .int behind, .int most] ∧ LogAt K H p F L ∧ L.rows.length ≤ 1000 ∧
  ∀ l H' ys, H l = none → Ext [] H H' → H' l = some (.lst ys) → Paired (IsR H') ys (L.wanted pre behind most) → Q (.ref l) H'
theorem sc_Log_wanted : FnScope ["self", "prefix", "behind", "most", "found", "row"] ["self", "prefix", "behind", "most"] (defScope s_Log_wanted) := ⟨rfl, rfl, rfl, by decide +kernel, rfl, by decide +kernel, by decide +kernel⟩
theorem ok_Log_wanted (T : FX K mg) : FnOk P w K mg base (L2N.CX P w) 1 (He.ma K (He.ga K "Log") "wanted") (fdAt K ("Log", some "wanted")) ["self", "prefix", "behind", "most"] (sp_Log_wanted K) := by
  refine FunD.ok T.F_Log_wanted sc_Log_wanted (fun vs H Q E h => ?_) (fun cdv A outer s H vs Q E hr h => ?_)
  · (repeat (obtain ⟨_, h⟩ := h)); subst_vars; rfl
  · have hu := hu_of hr
    have hu64 := hr.units
    refine ⟨_,
      (pss_cons
        (ps_set (i := 4) sc_Log_wanted.nd rfl (Or.inl rfl) (pe_lst pa_nil))
      (pss_cons
        (ps_for pod rfl (pi_list (pe_fldC T.cl_Log T.na_Log_rows (pv 0))) (pg_name (i := 5) sc_Log_wanted.nd rfl (Or.inl rfl))
          (pss_one
            (ps_if (PW.pt (pw_and (pt_cmpR oIgt (pe_ix ix_tup (pv 5) pe_int (fun _ _ => rfl)) (pv 2) (nomark _)) (pw_and (pt_val (pe_m1 PySem.F.slot_str_startswith PySem.F.type_str_startswith oSW (pe_ix ix_tup (pv 5) pe_int (fun _ _ => rfl)) (pv 1))) (pw_and1 (pt_cmpR oIlt (pe_callB oLen (by rfl) T.f_len PySem.boot_len (pa_cons (pv 4) pa_nil)) (pv 3) (nomark _))))))
              (pss_one
                (ps_expr (pe_bm PySem.F.plainAttrs_list PySem.F.slot_list_append PySem.F.type_list_append mt_append (pv 4) (pa_cons (pv 5) pa_nil))))
              pss_nil)))
      (pss_one
        (ps_ret (pv 4))))), ?_⟩
    obtain ⟨p, F, L, pre, behind, most, rfl, hL, z, k⟩ := h
    obtain ⟨pr, dx, ys, rfl, n, h1, h2, h3⟩ := id hL
    have R0 : Run [] H H := Run.start Live.nil
    repeat wtm_at "k"
    rename_i l H1 f1 f2 f3 r1 g1 s1
    refine l_for (xs := ys) (SqL.of (by wtm_at "hf")) (fun i σ' H' => ∃ x5 acc, σ' = [some (.ref p), some (.str pre), some (.int behind), some (.int most), some (.ref l), x5] ∧ Run [] H H' ∧ H' l = some (.lst acc) ∧
      Paired (IsR H') acc (((L.rows.take i).filter fun r => decide (behind < r.n) && begins r.k pre).take most.toNat)) ?h0 ?hl ?hs ?hd
    case h0 => exact ⟨_, _, rfl, by assumption, by wtm_at "hf", by simpa using Paired.nil⟩
    case hl => exact fun i σ' H' _ ⟨_, _, _, r, _, _⟩ => SqL.of (r.ext.keep _ _ h2 (by simp))
    case hs =>
      intro i x σ' H' ex ⟨x5, acc, es, rr, ha, hp⟩
      subst es
      obtain ⟨r, er, t, rfl, ht⟩ := getT h3 ex
      have ht' : H' t = some (.tup (fR r)) := rr.ext.tups _ _ ht
      have hacc : acc.length ≤ 1000 := by
        have := Paired.length hp
        rw [List.length_take] at this
        have := List.length_filter_le (fun r => decide (behind < r.n) && begins r.k pre) (L.rows.take i)
        have := List.length_take_le' i L.rows
        omega
      have lp := Paired.length hp
      have stay : (decide (behind < r.n) && begins r.k pre) = false → ∃ x5 acc, ([some (.ref p), some (.str pre), some (.int behind), some (.int most), some (.ref l), some (.ref t)] : St) = [some (.ref p), some (.str pre), some (.int behind), some (.int most), some (.ref l), x5] ∧ Run [] H H' ∧ H' l = some (.lst acc) ∧
          Paired (IsR H') acc (((L.rows.take (i + 1)).filter fun r => decide (behind < r.n) && begins r.k pre).take most.toNat) := fun z => by
        refine ⟨_, acc, rfl, rr, ha, ?_⟩
        rw [filter_take_snoc er, if_neg (by rw [z]; exact Bool.false_ne_true), List.append_nil]
        exact hp
      repeat wtm_at "k"
      refine k_ifd (fun c1 => ?_) fun c1 => ?_
      · repeat wtm_at "k"
        refine k_if (fun c2 => ?_) fun c2 => ?_
        · repeat wtm_at "k"
          have full : (decide (behind < r.n) && begins r.k pre) = true := by rw [decide_eq_true c1, c2]; rfl
          refine k_ifd (fun c3 => ?_) fun c3 => ?_
          · repeat wtm_at "k"
            rename_i H2 r2 h2' n2
            refine ⟨_, _, rfl, by assumption, h2', ?_⟩
            rw [filter_take_snoc er, if_pos full, take_snoc_lt (by omega)]
            exact snocT (keepT (Run.tk n2 ha) hp) ⟨t, rfl, by wtm_at "hf"⟩
          · refine k_next ⟨_, _, rfl, rr, ha, ?_⟩
            rw [filter_take_snoc er, if_pos full, take_snoc_ge (by omega)]
            exact hp
        · repeat wtm_at "k"
          exact stay (by rw [c2, Bool.and_false])
      · repeat wtm_at "k"
        exact stay (by rw [decide_eq_false c1]; rfl)
    case hd =>
      rintro σ' H' ⟨x5, acc, rfl, rr, ha, hp⟩
      repeat wtm_at "k"
      refine k l H' acc f1 rr.ext ha ?_
      have e : L.rows.take ys.length = L.rows := by rw [Paired.length h3, List.take_length]
      rw [e] at hp
      exact hp
def sp_Log_forget (K : PySem.W.Frag) : Sp := fun vs H Q _ => ∃ p F L upto, vs = [.ref p, .int upto] ∧ LogAt K H p F L ∧ L.rows.length ≤ 1000 ∧
  ∀ H' F', LogAt K H' p F' (L.forget upto) → Grow H F F' → Ext F H H' → Q (.int (L.many upto)) H'
theorem sc_Log_forget : FnScope ["self", "upto", "kept", "many", "row"] ["self", "upto"] (defScope s_Log_forget) := ⟨rfl, rfl, rfl, by decide +kernel, rfl, by decide +kernel, by decide +kernel⟩
theorem ok_Log_forget (T : FX K mg) : FnOk P w K mg base (L2N.CX P w) 1 (He.ma K (He.ga K "Log") "forget") (fdAt K ("Log", some "forget")) ["self", "upto"] (sp_Log_forget K) := by
  refine FunD.ok T.F_Log_forget sc_Log_forget (fun vs H Q E h => ?_) (fun cdv A outer s H vs Q E hr h => ?_)
  · (repeat (obtain ⟨_, h⟩ := h)); subst_vars; rfl
  · have hu := hu_of hr
    have hu64 := hr.units
    refine ⟨_,
      (pss_cons
        (ps_setLc (i := 2) (own := [("row", 4)]) (g := gName 4) rfl sc_Log_forget.nd rfl rfl (sw_true rfl rfl rfl (by decide +kernel)) (pi_list (pe_fldC T.cl_Log T.na_Log_rows (pv 0))) (blkOk_by (N := ["self", "upto", "kept", "many", "row"]) (sc := defScope s_Log_forget) (by decide +kernel)) (fun _ _ _ _ _ => (pg_name (i := 4) sc_Log_forget.nd rfl (Or.inl rfl))) (fun _ _ _ _ _ => (pts_one (pt_cmpR oIgt (pe_ix (ix_tupK (K := K) rfl) (pv 4) pe_int (fun _ _ => rfl)) (pv 1) (nomark _)))) (fun _ _ _ _ _ => (pv 4)))
      (pss_cons
        (ps_set (i := 3) sc_Log_forget.nd rfl (Or.inl rfl) (pe_op oIsub (pe_callB oLen (by rfl) T.f_len PySem.boot_len (pa_cons (pe_fldC T.cl_Log T.na_Log_rows (pv 0)) pa_nil)) (pe_callB oLen (by rfl) T.f_len PySem.boot_len (pa_cons (pv 2) pa_nil))))
      (pss_cons
        (ps_fldC T.cl_Log T.na_Log_rows (pv 0) (pv 2))
      (pss_cons
        (ps_fldC T.cl_Log T.na_Log_gone (pv 0) (pe_op oIadd (pe_fldC T.cl_Log T.na_Log_gone (pv 0)) (pv 3)))
      (pss_one
        (ps_ret (pv 3))))))), ?_⟩
    obtain ⟨p, F, L, upto, rfl, hL, z, k⟩ := h
    obtain ⟨pr, dx, ys, rfl, n, h1, h2, h3⟩ := id hL
    have el : ys.length = L.rows.length := Paired.length h3
    have R0 : Run [p, pr] H H := Run.start (by wtm_at "lv")
    repeat wtm_at "k"
    refine l_lcL (j := 4) (xs := ys) (SqL.of h2) (by wtm_at "sz") (fun i acc H' => Paired (IsR H') acc ((L.rows.take i).filter fun r => decide (upto < r.n))) .nil (fun i acc H1 H2 t h => keepT t h) (fun i x acc H1 R R0 ex e hl hP q1 q0 => ?_) (fun D H1 acc nD e hD lD hP => ?_)
    · obtain ⟨r, er, t, rfl, ht⟩ := getT h3 ex
      have ht' : H1 t = some (.tup (fR r)) := e.tups _ _ ht
      repeat wtm_at "k"
      refine k_ifd (fun c => ?_) fun c => ?_
      · repeat wtm_at "k"
        refine q1 _ _ (Ext.refl _ _) ?_
        rw [filter_take_snoc er, if_pos (decide_eq_true c)]
        exact snocT hP ⟨t, rfl, ht'⟩
      · refine q0 _ (Ext.refl _ _) ?_
        rw [filter_take_snoc er, if_neg (by simpa using c), List.append_nil]
        exact hP
    · have e2 : L.rows.take ys.length = L.rows := by rw [el, List.take_length]
      rw [e2] at hP
      have R1 : Run [p, pr] H H1 := R0.same e
      have b1 := e.keep _ _ h1 (by simp)
      have b2 := e.keep _ _ h2 (by simp)
      have nDp : p ≠ D := ne_of_none h1 nD
      have lk : acc.length = (L.kept upto).length := Paired.length hP
      repeat wtm_at "k"
      rename_i H2 r2 g2 n2 H3 r3 g3 n3
      have em : (ys.length : Int) - acc.length = L.many upto := by unfold LogS.many; rw [el, lk]
      rw [em] at g3 ⊢
      refine k H3 [p, D] ⟨D, dx, acc, rfl, nDp, g3, ?g1, ?g2⟩ ?g4 (Run.ext (by assumption))
      case g1 => wtm_at "hf"
      case g2 => exact keepT (fun a xs h => by wtm_at "hf") hP
      case g4 => intro c hc; simp only [List.mem_cons, List.not_mem_nil, or_false] at hc; rcases hc with rfl | rfl <;> simp [*]
end
end LW

set_option maxHeartbeats 4000000
namespace LW
open PySem PySem.Spec PyProof.Rows L2
local macro_rules | `(tactic| wtm_at "vk") => `(tactic| first
  | assumption
  | with_reducible exact rv_mine_rows
  | with_reducible exact rv_mine_gone
  | with_reducible exact rv_mine_told
  | exact valV_iv (by assumption)
  | fail)
local macro_rules | `(tactic| wtm_at "pk") => `(tactic| first
  | with_reducible exact putK_iv
  | with_reducible exact dropK_ik
  | with_reducible exact dropK_sk
  | with_reducible exact rp_mine_rows
  | with_reducible exact rp_mine_gone
  | with_reducible exact rp_mine_told
  | assumption
  | fail)
local macro_rules | `(tactic| wtm_at "rm") => `(tactic| first
  | with_reducible exact rm_mine
  | exact rfl
  | fail)
local macro_rules | `(tactic| wtm_at "rl") => `(tactic| first
  | with_reducible exact rl_mine
  | with_reducible assumption
  | fail)
local macro_rules | `(tactic| wtm_at "lk") => `(tactic| with_reducible first
  | exact lk_Log_rows
  | exact lk_Log_gone
  | fail)
local macro_rules | `(tactic| wtm_at "lm") => `(tactic| with_reducible first
  | exact lm_Log_note
  | exact lm_Log_last
  | exact lm_Log_first
  | exact lm_Log_wanted
  | exact lm_Log_forget
  | fail)
local macro_rules | `(tactic| wtm_at "pt") => `(tactic| with_reducible first
  | exact pt_Log_rows
  | exact pt_Log_gone
  | exact pi_Log_0
  | exact pi_Log_1
  | fail)
local macro_rules | `(tactic| wtm_at "lz") => `(tactic| with_reducible first
  | exact lz_Log
  | (simp only [List.length_cons, List.length_nil]; decide)
  | exact (by decide)
  | fail)
local macro_rules | `(tactic| wtm_at "hf") => `(tactic| first
  | assumption
  | (refine' hf_s ?hs ?hx; (case hs => assumption); (case hx => wtm_at "hf"))
  | (refine' hf_n ?hs ?hx ?ne; (case hs => assumption); (case hx => wtm_at "hf"); (case ne => wtm_at "ne"))
  | (refine' hf_e ?hs ?hx ?hy; (case hs => assumption); (case hx => wtm_at "hf"); (case hy => wtm_at "nin"))
  | fail)
local macro_rules | `(tactic| wtm_at "ne") => `(tactic| first
  | assumption
  | (apply Ne.symm; assumption)
  | (refine' ne_of_none ?hx ?hy; (case hy => assumption); (case hx => wtm_at "hf"))
  | (refine' (ne_of_none ?hx ?hy).symm; (case hy => assumption); (case hx => wtm_at "hf"))
  | (refine' ne_of ?hx ?hy ?hz; (case hx => assumption); (case hy => assumption); (case hz => intro z; cases z))
  | fail)
local macro_rules | `(tactic| wtm_at "nin") => `(tactic| first
  | assumption
  | exact notin_nil
  | (refine' notin_cons ?hx ?hy; (case hx => wtm_at "ne"); (case hy => wtm_at "nin"))
  | fail)
local macro_rules | `(tactic| wtm_at "mem") => `(tactic| first
  | assumption
  | exact List.mem_cons_self
  | (refine' List.mem_cons_of_mem _ ?hx; (case hx => wtm_at "mem"))
  | fail)
local macro_rules | `(tactic| wtm_at "wr") => `(tactic| first
  | exact Or.inr (by assumption)
  | exact Or.inl (by wtm_at "mem")
  | fail)
local macro_rules | `(tactic| wtm_at "lv") => `(tactic| first
  | assumption
  | exact Live.nil
  | (refine' Live.cons ?hx ?hy; (case hx => wtm_at "hf"); (case hy => wtm_at "lv"))
  | fail)
local macro_rules | `(tactic| wtm_at "run") => `(tactic| first
  | assumption
  | (refine' Run.same ?hx ?hy; (case hy => assumption); (case hx => wtm_at "run"))
  | fail)
local macro_rules | `(tactic| wtm_at "sq") => `(tactic| first
  | assumption
  | (refine' Run.seq ?hx ?hy; (case hx => assumption); (case hy => assumption))
  | (refine' SqL.of ?hx; (case hx => wtm_at "hf"))
  | (refine' Same.seq ?hx ?hy; (case hx => assumption); (case hy => wtm_at "sq"))
  | (refine' Ext.seqL ?hx ?hz ?hy; (case hx => assumption); (case hy => wtm_at "sq"); (case hz => wtm_at "nin"))
  | fail)
local macro_rules | `(tactic| wtm_at "st") => `(tactic| first
  | assumption
  | (refine' SqT.of ?hx; (case hx => wtm_at "hf"))
  | fail)
local macro_rules | `(tactic| wtm_at "ix") => `(tactic| first
  | assumption
  | exact rfl
  | fail)
local macro_rules | `(tactic| wtm_at "sz") => `(tactic| first
  | wtm_at "rl"
  | with_reducible assumption
  | (rw [ik_len]; wtm_at "sz")
  | (rw [sk_len]; wtm_at "sz")
  | exact small1000 (by assumption)
  | exact small1000 (by omega)
  | exact small1000 (by simp only [List.length_cons, List.length_nil, List.length_append, List.length_map]; omega)
  | fail)
local macro_rules | `(tactic| wtm_at "tx") => `(tactic| first
  | assumption
  | ((with_reducible refine' Tx.app ?hx ?hy); (case hx => wtm_at "tx"); (case hy => wtm_at "tx"))
  | ((with_reducible refine' Tx.cut ?hx); (case hx => wtm_at "tx"))
  | with_reducible exact Tx.nil
  | fail)
local macro_rules | `(tactic| wtm_at "k") => `(tactic| first
  | with_reducible refine k_seq ?_
  | with_reducible refine k_next ?_
  | with_reducible refine k_asg ?_
  | with_reducible refine k_ret ?_
  | with_reducible refine k_retN ?_
  | with_reducible refine k_drop ?_
  | with_reducible refine k_ifS ?_
  | ((with_reducible refine' k_var ?hx ?_); (case hx => exact rfl))
  | with_reducible refine k_c ?_
  | with_reducible refine k_negc ?_
  | with_reducible refine k_neg ?_
  | with_reducible refine l_neg ?_
  | with_reducible refine k_op ?_
  | with_reducible refine k_cb ?_
  | with_reducible refine k_nil ?_
  | with_reducible refine k_cons ?_
  | with_reducible refine k_test ?_
  | with_reducible refine k_B ?_
  | with_reducible refine k_not ?_
  | with_reducible refine k_and ?_
  | with_reducible refine k_or ?_
  | with_reducible refine k_notV ?_
  | with_reducible refine k_andV ?_
  | with_reducible refine k_orV ?_
  | with_reducible refine k_bl ?_
  | with_reducible refine k_add ?_
  | with_reducible refine k_sub ?_
  | ((with_reducible refine' k_mod ?hx ?_); (case hx => first | decide | omega))
  | ((with_reducible refine' k_div ?hx ?_); (case hx => exact ⟨by decide, by decide⟩))
  | ((with_reducible refine' k_mul ?hx ?_); (case hx => first | exact Or.inl ⟨by decide, by decide⟩ | exact Or.inr ⟨by decide, by decide⟩ | exact Or.inl ⟨by omega, by omega⟩))
  | with_reducible refine k_p6 ?_
  | with_reducible refine k_p9 ?_
  | with_reducible refine k_p12 ?_
  | with_reducible refine k_p13 ?_
  | with_reducible refine k_p18 ?_
  | with_reducible refine k_p30 ?_
  | with_reducible refine k_lt ?_
  | with_reducible refine k_le ?_
  | with_reducible refine k_gt ?_
  | with_reducible refine k_ge ?_
  | with_reducible refine k_eq ?_
  | with_reducible refine k_ne ?_
  | with_reducible refine k_seqS ?_
  | with_reducible refine k_neS ?_
  | with_reducible refine k_neB ?_
  | with_reducible refine k_isN ?_
  | with_reducible refine k_noN ?_
  | with_reducible refine k_fld ?_
  | ((with_reducible refine' l_fld ?hx ?hy ?_); (case hx => wtm_at "hf"); (case hy => wtm_at "lk"))
  | with_reducible refine k_fldS ?_
  | ((with_reducible refine' l_fldS ?hr ?hx ?hz ?hy ?hw ?_); (case hr => wtm_at "run"); (case hx => wtm_at "hf"); (case hy => wtm_at "pt"); (case hz => wtm_at "lz"); (case hw => wtm_at "wr"); intro _ _ _ _)
  | ((with_reducible refine' l_new ?hr ?_); (case hr => wtm_at "run"); intro _ _ _ _ _ _ _ _)
  | with_reducible refine k_append ?_
  | ((with_reducible refine' l_tyL ?hx ?_); (case hx => wtm_at "hf"))
  | ((with_reducible refine' l_ins ?hx ?hy ?_); (case hx => wtm_at "hf"); (case hy => wtm_at "lm"))
  | with_reducible refine k_methS ?_
  | with_reducible refine k_methG ?_
  | with_reducible refine k_makeG ?_
  | with_reducible refine k_meth0 ?_
  | with_reducible refine k_callS ?_
  | with_reducible refine k_callE ?_
  | with_reducible refine k_dget ?_
  | with_reducible refine k_din ?_
  | with_reducible refine k_dnotin ?_
  | with_reducible refine k_dput ?_
  | with_reducible refine k_dpop ?_
  | with_reducible refine k_dget2 ?_
  | with_reducible refine k_tup ?_
  | with_reducible refine k_lst ?_
  | with_reducible refine k_dnew ?_
  | ((with_reducible refine' l_tup ?hx ?_); (case hx => simp only [List.length_cons, List.length_nil]; decide))
  | ((with_reducible refine' l_lst ?hx ?_); (case hx => simp only [List.length_cons, List.length_nil]; decide))
  | ((with_reducible refine' l_isD ?hx ?_); (case hx => wtm_at "hf"))
  | ((with_reducible refine' l_dinI ?hx ?_); (case hx => wtm_at "hf"))
  | ((with_reducible refine' l_dinS ?hx ?_); (case hx => wtm_at "hf"))
  | ((with_reducible refine' l_dnotinI ?hx ?_); (case hx => wtm_at "hf"))
  | ((with_reducible refine' l_dnotinS ?hx ?_); (case hx => wtm_at "hf"))
  | ((with_reducible refine' l_dputI ?hr ?hx ?hz ?hy ?hw ?_); (case hr => wtm_at "run"); (case hx => wtm_at "hf"); (case hy => wtm_at "pk"); (case hz => wtm_at "sz"); (case hw => wtm_at "wr"); intro _ _ _ _)
  | ((with_reducible refine' l_dputS ?hr ?hx ?hz ?hy ?hw ?_); (case hr => wtm_at "run"); (case hx => wtm_at "hf"); (case hy => wtm_at "pk"); (case hz => wtm_at "sz"); (case hw => wtm_at "wr"); intro _ _ _ _)
  | ((with_reducible refine' l_dpopI ?hr ?hx ?hz ?hy ?hw ?_); (case hr => wtm_at "run"); (case hx => wtm_at "hf"); (case hy => wtm_at "pk"); (case hz => wtm_at "vk"); (case hw => wtm_at "wr"); intro _ _ _ _)
  | ((with_reducible refine' l_dpopS ?hr ?hx ?hz ?hy ?hw ?_); (case hr => wtm_at "run"); (case hx => wtm_at "hf"); (case hy => wtm_at "pk"); (case hz => wtm_at "vk"); (case hw => wtm_at "wr"); intro _ _ _ _)
  | ((with_reducible refine' l_dgetI ?hx ?hz ?_); (case hx => wtm_at "hf"); (case hz => wtm_at "vk"))
  | ((with_reducible refine' l_dgetS ?hx ?hz ?_); (case hx => wtm_at "hf"); (case hz => wtm_at "vk"))
  | ((with_reducible refine' l_dgetIF ?hx ?hz ?_); (case hx => wtm_at "hf"); (case hz => wtm_at "vk"))
  | ((with_reducible refine' l_dgetSF ?hx ?hz ?_); (case hx => wtm_at "hf"); (case hz => wtm_at "vk"))
  | ((with_reducible refine' k_disp ?hr ?_); (case hr => wtm_at "run"); intro _ _ _ _ _ _ _ _)
  | with_reducible refine k_pcons ?_
  | with_reducible refine k_pnil ?_
  | ((with_reducible refine' l_disp ?hr ?hx ?hu ?hv ?hy ?hw ?_); (case hr => wtm_at "run"); (case hx => wtm_at "hf"); (case hu => exact rfl); (case hv => simp only [List.length_map, List.length_cons, List.length_nil]; decide); (case hy => wtm_at "rm"); (case hw => wtm_at "wr"); intro _ _ _ _)
  | ((with_reducible refine' l_append ?hr ?hx ?hz ?hw ?_); (case hr => wtm_at "run"); (case hx => wtm_at "hf"); (case hz => wtm_at "sz"); (case hw => wtm_at "wr"); intro _ _ _ _)
  | ((with_reducible refine' l_isEt ?hx ?_); (case hx => first | exact isD (ExcK.kit (by assumption) _ (by wtm_at "mem") _ (by wtm_at "mem")) | exact isC (ExcK.kit (by assumption) _ (by wtm_at "mem") _ (by wtm_at "mem")) (by decide)))
  | ((with_reducible refine' l_isEV ?hx ?_); (case hx => exact ExcK.kitV (by assumption) _ (by wtm_at "mem")))
  | ((with_reducible refine' l_isiI ?hx ?_); (case hx => first | rfl | assumption))
  | ((with_reducible refine' l_isiB ?hx ?_); (case hx => first | rfl | assumption))
  | with_reducible refine l_isiSS ?_
  | ((with_reducible refine' l_isiS ?hx ?_); (case hx => first | rfl | assumption))
  | ((with_reducible refine' l_isiL ?hx ?_); (case hx => wtm_at "hf"))
  | ((with_reducible refine' l_isiT ?hx ?_); (case hx => wtm_at "hf"))
  | ((with_reducible refine' l_lenL ?hx ?_); (case hx => wtm_at "sq"))
  | ((with_reducible refine' l_lenT ?hx ?_); (case hx => wtm_at "st"))
  | ((with_reducible refine' l_ixL ?hx ?hy ?_); (case hx => wtm_at "sq"); (case hy => wtm_at "ix"))
  | ((with_reducible refine' l_ixT ?hx ?hy ?_); (case hx => wtm_at "st"); (case hy => wtm_at "ix"))
  | with_reducible refine k_m1 ?_
  | with_reducible refine l_strX ?_
  | with_reducible refine l_sw ?_
  | ((with_reducible refine' x_addS ?hx ?hy ?hz ?_); (case hx => wtm_at "tx"); (case hy => wtm_at "tx"); (case hz => decide))
  | ((with_reducible refine' x_slS ?hx ?hz ?_); (case hx => wtm_at "tx"); (case hz => decide))
  | ((with_reducible refine' x_lenX ?hx ?hz ?_); (case hx => wtm_at "tx"); (case hz => decide))
  | with_reducible refine l_max ?_
  | with_reducible refine l_min ?_
  | with_reducible refine l_abs ?_
  | with_reducible refine k_sl ?_
  | with_reducible refine k_part ?_
  | with_reducible refine l_part ?_
  | with_reducible refine k_nopart ?_
  | with_reducible refine k_yes ?_
  | ((with_reducible refine' l_slL ?hr ?hx ?_); (case hr => wtm_at "run"); (case hx => wtm_at "sq"); intro _ _ _ _ _ _ _ _)
  | with_reducible refine k_lcL ?_
  | with_reducible refine k_lcR ?_
  | with_reducible refine k_for ?_
  | with_reducible refine k_rng1 ?_
  | with_reducible refine k_rng2 ?_
  | with_reducible refine k_rng3 ?_
  | with_reducible refine k_makeS ?_
  | ((with_reducible refine' l_make ?hr ?_); (case hr => wtm_at "run"); intro _ _ _ _ _ _ _ _ _)
  | with_reducible refine k_ntt ?_
  | with_reducible refine k_ntf ?_
  | with_reducible refine k_clear ?_
  | ((with_reducible refine' l_clear ?hr ?hx ?hw ?_); (case hr => wtm_at "run"); (case hx => wtm_at "hf"); (case hw => wtm_at "wr"); intro _ _ _ _)
  | with_reducible refine k_ift ?_
  | with_reducible refine k_iff ?_
  | with_reducible refine g_name ?_
  | fail)
local macro_rules | `(tactic| wtm_at "k") => `(tactic| first
  | with_reducible refine k_wholeI ?_
  | ((with_reducible refine' k_whole ?hx ?_); (case hx => first | rfl | assumption))
  | ((with_reducible refine' k_cell ?hx ?hy ?_); (case hx => first | decide | omega | assumption); (case hy => wtm_at "sq"))
  | fail)
/-! ### texts that are drawn -/
section
variable {P : Program} {w : World} {K : PySem.W.Frag} {mg : Str → Option Value} {base : Heap}
def sp_l_sign (K : PySem.W.Frag) : Sp := fun vs H Q _ => ∃ c, vs = [.int c] ∧ ∀ s, Tx 1 s → s.length = 1 → Q (.str s) H
theorem sc_l_sign : FnScope ["_law_cell", "_law_some"] ["_law_cell"] (defScope s_l_sign) := ⟨rfl, rfl, rfl, by decide +kernel, rfl, by decide +kernel, by decide +kernel⟩
theorem ok_l_sign (T : FX K mg) : FnOk P w K mg base (L2N.CX P w) 1 (He.ga K "_law_sign") (fdAt K ("_law_sign", none)) ["_law_cell"] (sp_l_sign K) := by
  refine FunD.ok T.F_l_sign sc_l_sign (fun vs H Q E h => ?_) (fun cdv A outer s H vs Q E hr h => ?_)
  · (repeat (obtain ⟨_, h⟩ := h)); subst_vars; rfl
  · have hu := hu_of hr
    have hu64 := hr.units
    refine ⟨_,
      (pss_cons
        (ps_set (i := 1) sc_l_sign.nd rfl (Or.inl rfl) pe_str)
      (pss_cons
        (ps_set (i := 1) sc_l_sign.nd rfl (Or.inl rfl) (pe_op oSadd (pv 1) pe_str))
      (pss_one
        (ps_ret (pe_ix ix_str (pv 1) (pe_op oImod (pv 0) pe_int) (fun _ _ => rfl)))))), ?_⟩
    obtain ⟨c, rfl, k⟩ := h
    repeat wtm_at "k"
    refine k_addS (by decide +kernel) ?_
    repeat wtm_at "k"
    exact l_ixS (by decide +kernel) (by omega) (Int.lt_of_lt_of_le (show c % 94 < 94 by omega) (by decide +kernel)) (by decide +kernel) fun s o l => k s ⟨o, by omega⟩ l
def sp_l_text (K : PySem.W.Frag) : Sp := fun vs H Q _ => ∃ c n, vs = [.int c, .int n] ∧ 0 ≤ n ∧ n ≤ 100 ∧ ∀ s H', Tx 100 s → Ext [] H H' → Q (.str s) H'
theorem sc_l_text : FnScope ["_law_cell", "_law_size", "_law_k"] ["_law_cell", "_law_size"] (defScope s_l_text) := ⟨rfl, rfl, rfl, by decide +kernel, rfl, by decide +kernel, by decide +kernel⟩
theorem ok_l_text (T : FX K mg) : FnOk P w K mg base (L2N.CX P w) 2 (He.ga K "_law_text") (fdAt K ("_law_text", none)) ["_law_cell", "_law_size"] (sp_l_text K) := by
  refine FunD.ok T.F_l_text sc_l_text (fun vs H Q E h => ?_) (fun cdv A outer s H vs Q E hr h => ?_)
  · (repeat (obtain ⟨_, h⟩ := h)); subst_vars; rfl
  · have hu := hu_of hr
    have hu64 := hr.units
    refine ⟨_,
      (pss_one
        (ps_ret (pe_m1 PySem.F.slot_str_join PySem.F.type_str_join oJoin pe_str (pe_lc (own := [("_law_k", 2)]) (g := gName 2) rfl sc_l_text.nd (pi_range1 rfl T.f_range (pa_cons (pv 1) pa_nil)) (blkOk_by (N := ["_law_cell", "_law_size", "_law_k"]) (sc := defScope s_l_text) (by decide +kernel)) (fun _ _ _ _ _ => (pg_name (i := 2) sc_l_text.nd rfl (Or.inl rfl))) (fun _ _ _ _ _ => pts_nil) (fun _ _ _ _ _ => (pe_callS (ok_l_sign T) (hr.mono (j := 1) (by decide)) rfl T.g_l_sign T.k_l_sign T.b_l_sign (fun σ => L2N.passAt tk0 σ) (pa_cons (pe_op oIadd (pv 0) (pe_op oImul (pe_op oImul pe_int (pv 2)) (pv 2))) pa_nil))))))), ?_⟩
    obtain ⟨c, n, rfl, h0, h1, k⟩ := h
    repeat wtm_at "k"
    refine l_lcR (by omega) (by omega) (fun i acc _ => ∃ ts : List Str, acc = ts.map V.str ∧ ts.length = i ∧ (∀ t ∈ ts, PyData.strOk t = true) ∧ (ts.map (·.length)).sum = i) ⟨[], rfl, rfl, (fun _ z => by cases z), rfl⟩ (fun _ _ _ _ _ z => z) ?hs ?hq
    case hs =>
      intro i acc H1 R R0 hi e hl ⟨ts, ea, el, ok, sm⟩ q1 q0
      subst ea
      repeat wtm_at "k"
      refine ⟨_, rfl, fun s o1 o2 => ?_⟩
      refine q1 _ _ (Ext.refl _ _) ⟨ts ++ [s], by rw [List.map_append]; rfl, by rw [List.length_append, el]; rfl, fun t m => ?_, ?_⟩
      · rcases List.mem_append.mp m with m | m
        · exact ok t m
        · rw [List.mem_singleton.mp m]; exact o1.ok
      · rw [List.map_append, List.sum_append, sm]; simp [o2]
    case hq =>
      rintro D H' acc hD e hd hl ⟨ts, rfl, el, ok, sm⟩
      refine l_join (SqL.of hd) (by rw [sm]; omega) ?_
      exact k _ _ ⟨ok_join ok, by rw [join_len, sm]; omega⟩ e
/-- six texts -/
structure PoolAt (H : Hp) (p : Addr) (ts : List Str) : Prop where
  at' : H p = some (.lst (ts.map V.str))
  len : ts.length = 6
  tx : ∀ t ∈ ts, Tx 300 t
theorem PoolAt.ext {H H' : Hp} {p : Addr} {ts : List Str} {F : List Addr} (a : PoolAt H p ts) (e : Ext F H H') (n : p ∉ F) : PoolAt H' p ts := ⟨e.keep _ _ a.at' n, a.len, a.tx⟩
theorem PoolAt.get {H : Hp} {p : Addr} {ts : List Str} (a : PoolAt H p ts) {n : Int} (h : 0 ≤ n) (l : n < 6) : ∃ t, atI (ts.map V.str) n = some (.str t) ∧ Tx 300 t := by
  obtain ⟨c, ec, mc⟩ := atI_mem (xs := ts.map V.str) h (by rw [List.length_map, a.len]; exact l)
  obtain ⟨t, mt, rfl⟩ := List.mem_map.mp mc
  exact ⟨t, ec, a.tx t mt⟩
def sp_l_pool (K : PySem.W.Frag) : Sp := fun vs H Q _ => ∃ c o, vs = [.int c, .int o] ∧ ∀ p H' ts, H p = none → Ext [] H H' → PoolAt H' p ts → Q (.ref p) H'
theorem sc_l_pool : FnScope ["_law_cell", "_law_other", "_law_first", "_law_one", "_law_two", "_law_at"] ["_law_cell", "_law_other"] (defScope s_l_pool) := ⟨rfl, rfl, rfl, by decide +kernel, rfl, by decide +kernel, by decide +kernel⟩
theorem ok_l_pool (T : FX K mg) : FnOk P w K mg base (L2N.CX P w) 3 (He.ga K "_law_pool") (fdAt K ("_law_pool", none)) ["_law_cell", "_law_other"] (sp_l_pool K) := by
  refine FunD.ok T.F_l_pool sc_l_pool (fun vs H Q E h => ?_) (fun cdv A outer s H vs Q E hr h => ?_)
  · (repeat (obtain ⟨_, h⟩ := h)); subst_vars; rfl
  · have hu := hu_of hr
    have hu64 := hr.units
    refine ⟨_,
      (pss_cons
        (ps_set (i := 2) sc_l_pool.nd rfl (Or.inl rfl) (pe_callS (ok_l_text T) (hr.mono (j := 2) (by decide)) rfl T.g_l_text T.k_l_text T.b_l_text (fun σ => L2N.passAt tkd σ) (pa_cons (pv 0) (pa_cons (pe_ix ix_list (pe_lst (pa_cons (pe_op oIadd pe_int (pe_op oImod (pv 0) pe_int)) (pa_cons (pe_op oIadd pe_int (pe_op oImod (pv 0) pe_int)) pa_nil))) (pe_op oImod (pe_op oIdiv (pv 0) pe_int) pe_int) (fun _ _ => rfl)) pa_nil))))
      (pss_cons
        (ps_set (i := 3) sc_l_pool.nd rfl (Or.inl rfl) (pe_callS (ok_l_sign T) (hr.mono (j := 1) (by decide)) rfl T.g_l_sign T.k_l_sign T.b_l_sign (fun σ => L2N.passAt tkd σ) (pa_cons (pv 1) pa_nil)))
      (pss_cons
        (ps_set (i := 4) sc_l_pool.nd rfl (Or.inl rfl) (pe_callS (ok_l_sign T) (hr.mono (j := 1) (by decide)) rfl T.g_l_sign T.k_l_sign T.b_l_sign (fun σ => L2N.passAt tkd σ) (pa_cons (pe_op oIdiv (pv 1) pe_int) pa_nil)))
      (pss_cons
        (ps_set (i := 5) sc_l_pool.nd rfl (Or.inl rfl) (pe_op oImod (pe_op oIdiv (pv 1) pe_int) (pe_op oIadd (pe_callB oLenX (by rfl) T.f_len PySem.boot_len (pa_cons (pv 2) pa_nil)) pe_int)))
      (pss_one
        (ps_ret (pe_lst (pa_cons (pv 2) (pa_cons (pe_op oSadd (pv 2) (pv 3)) (pa_cons (pe_op oSadd (pe_op oSadd (pe_slice sl_str (pv 2) po_none (po_some (pv 5))) (pv 4)) (pe_slice sl_str (pv 2) (po_some (pv 5)) po_none)) (pa_cons (pv 3) (pa_cons (pe_op oSadd (pv 4) (pv 2)) (pa_cons (pe_callS (ok_l_text T) (hr.mono (j := 2) (by decide)) rfl T.g_l_text T.k_l_text T.b_l_text (fun σ => L2N.passAt tkd σ) (pa_cons (pv 1) (pa_cons (pe_op oIsub pe_int (pe_op oImod (pv 1) pe_int)) pa_nil))) pa_nil))))))))))))), ?_⟩
    obtain ⟨c, o, rfl, k⟩ := h
    have R0 : Run [] H H := Run.start Live.nil
    obtain ⟨d, ed, hd⟩ : ∃ d, atI (([1 + c % 4, 1 + c % 18] : List Int).map V.int) (c / 4 % 2) = some (.int d) ∧ 1 ≤ d ∧ d ≤ 18 := by
      have h : c / 4 % 2 = 0 ∨ c / 4 % 2 = 1 := by omega
      rcases h with h | h <;> rw [h] <;> exact ⟨_, rfl, by omega, by omega⟩
    repeat wtm_at "k"
    refine ⟨c, d, rfl, by omega, by omega, fun first H1 o1 e1 => ?_⟩
    repeat wtm_at "k"
    refine ⟨_, rfl, fun one o2 l2 => ?_⟩
    repeat wtm_at "k"
    refine ⟨_, rfl, fun two o3 l3 => ?_⟩
    repeat wtm_at "k"
    have R3 : Run [] H H1 := Run.same (by assumption) e1
    refine ⟨_, _, rfl, by omega, by omega, fun last H4 o4 e4 => ?_⟩
    have R4 := R3.same e4
    repeat wtm_at "k"
    rename_i p H5 f1 f2 f3 r5 h5 s5
    refine k p H5 [first, first ++ one, cutS first none (some (o / 8836 % (first.length + 1))) ++ two ++ cutS first (some (o / 8836 % (first.length + 1))) none, one, two ++ first, last] f1 (Run.ext (by assumption)) ⟨h5, rfl, ?_⟩
    intro t ht
    simp only [List.mem_cons, List.not_mem_nil, or_false] at ht
    rcases ht with rfl | rfl | rfl | rfl | rfl | rfl <;> exact Tx.mono (by wtm_at "tx") (by decide)
def sp_l_prefix (K : PySem.W.Frag) : Sp := fun vs H Q _ => ∃ p ts c, vs = [.ref p, .int c] ∧ PoolAt H p ts ∧ ∀ s H', Tx 300 s → Ext [] H H' → Q (.str s) H'
theorem sc_l_prefix : FnScope ["_law_pool_here", "_law_cell"] ["_law_pool_here", "_law_cell"] (defScope s_l_prefix) := ⟨rfl, rfl, rfl, by decide +kernel, rfl, by decide +kernel, by decide +kernel⟩
theorem ok_l_prefix (T : FX K mg) : FnOk P w K mg base (L2N.CX P w) 1 (He.ga K "_law_prefix") (fdAt K ("_law_prefix", none)) ["_law_pool_here", "_law_cell"] (sp_l_prefix K) := by
  refine FunD.ok T.F_l_prefix sc_l_prefix (fun vs H Q E h => ?_) (fun cdv A outer s H vs Q E hr h => ?_)
  · (repeat (obtain ⟨_, h⟩ := h)); subst_vars; rfl
  · have hu := hu_of hr
    have hu64 := hr.units
    refine ⟨_,
      (pss_one
        (ps_ret (pe_ix ix_list (pe_lst (pa_cons pe_str (pa_cons pe_str (pa_cons (pe_ix ix_list (pv 0) pe_int (fun _ _ => rfl)) (pa_cons (pe_ix ix_list (pv 0) pe_int (fun _ _ => rfl)) (pa_cons (pe_ix ix_list (pv 0) pe_int (fun _ _ => rfl)) (pa_cons (pe_slice sl_str (pe_ix ix_list (pv 0) pe_int (fun _ _ => rfl)) po_none (po_some pe_int)) (pa_cons (pe_ix ix_list (pv 0) pe_int (fun _ _ => rfl)) pa_nil)))))))) (pe_op oImod (pv 1) pe_int) (fun _ _ => rfl)))), ?_⟩
    obtain ⟨p, ts, c, rfl, ⟨hp, hl, ht⟩, k⟩ := h
    have R0 : Run [] H H := Run.start Live.nil
    match ts, hl, ht, hp with
    | [t0, t1, t2, t3, t4, t5], _, ht, hp =>
      have x0 := ht t0 (by simp)
      have x1 := ht t1 (by simp)
      have x3 := ht t3 (by simp)
      have x4 := ht t4 (by simp)
      have x5 := ht t5 (by simp)
      repeat wtm_at "k"
      obtain ⟨s, es, hs⟩ : ∃ s, atI [V.str Str.empty, V.str Str.empty, V.str t0, V.str t3, V.str t1, V.str (cutS t4 none (some 1)), V.str t5] (c % 7) = some (.str s) ∧ Tx 300 s := by
        have h : c % 7 = 0 ∨ c % 7 = 1 ∨ c % 7 = 2 ∨ c % 7 = 3 ∨ c % 7 = 4 ∨ c % 7 = 5 ∨ c % 7 = 6 := by omega
        have x2 := ht t1 (by simp)
        rcases h with h | h | h | h | h | h | h <;> rw [h] <;> exact ⟨_, rfl, Tx.mono (by wtm_at "tx") (by decide)⟩
      refine l_ixL (by wtm_at "sq") es ?_
      exact k _ _ hs (Run.ext (by assumption))
def sp_l_change (K : PySem.W.Frag) : Sp := fun vs H Q _ => ∃ v r, vs = [v] ∧ IsR H v r ∧ Q (.bl true) H
theorem sc_l_change : FnScope ["_law_found"] ["_law_found"] (defScope s_l_change) := ⟨rfl, rfl, rfl, by decide +kernel, rfl, by decide +kernel, by decide +kernel⟩
theorem ok_l_change (T : FX K mg) : FnOk P w K mg base (L2N.CX P w) 2 (He.ga K "_law_change") (fdAt K ("_law_change", none)) ["_law_found"] (sp_l_change K) := by
  refine FunD.ok T.F_l_change sc_l_change (fun vs H Q E h => ?_) (fun cdv A outer s H vs Q E hr h => ?_)
  · (repeat (obtain ⟨_, h⟩ := h)); subst_vars; rfl
  · have hu := hu_of hr
    have hu64 := hr.units
    refine ⟨_,
      (pss_cons
        (ps_if (PW.pt (pw_or (pt_not (pt_val (pe_callB call_isi (by rfl) T.f_isinstance (by decide +kernel) (pa_cons (pv 0) (pa_cons (pe_bltT (n := "tuple") rfl T.f_tuple (by decide +kernel)) pa_nil))))) (pw_or1 (pt_cmpR oIne (pe_callB oLen (by rfl) T.f_len PySem.boot_len (pa_cons (pv 0) pa_nil)) pe_int (nomark _)))))
          (pss_one
            (ps_ret pe_bl))
          pss_nil)
      (pss_cons
        (ps_if (PW.pt (pw_or (pt_not (pt_val (pe_callS (ok_l_whole T) (hr.mono (j := 1) (by decide)) rfl T.g_l_whole T.k_l_whole T.b_l_whole (fun σ => L2N.passAt tkd σ) (pa_cons (pe_ix ix_tup (pv 0) pe_int (fun _ _ => rfl)) pa_nil)))) (pw_or1 (pt_not (pt_val (pe_callS (ok_l_whole T) (hr.mono (j := 1) (by decide)) rfl T.g_l_whole T.k_l_whole T.b_l_whole (fun σ => L2N.passAt tkd σ) (pa_cons (pe_ix ix_tup (pv 0) pe_int (fun _ _ => rfl)) pa_nil)))))))
          (pss_one
            (ps_ret pe_bl))
          pss_nil)
      (pss_one
        (ps_ret (pe_and (pe_callB call_isi (by rfl) T.f_isinstance (by decide +kernel) (pa_cons (pe_ix ix_tup (pv 0) pe_int (fun _ _ => rfl)) (pa_cons (pe_bltT (n := "str") rfl T.f_str (by decide +kernel)) pa_nil))) (pe_and (pe_callB call_isi (by rfl) T.f_isinstance (by decide +kernel) (pa_cons (pe_ix ix_tup (pv 0) pe_int (fun _ _ => rfl)) (pa_cons (pe_bltT (n := "str") rfl T.f_str (by decide +kernel)) pa_nil))) (pe_one (pe_callB call_isi (by rfl) T.f_isinstance (by decide +kernel) (pa_cons (pe_ix ix_tup (pv 0) pe_int (fun _ _ => rfl)) (pa_cons (pe_bltT (n := "str") rfl T.f_str (by decide +kernel)) pa_nil)))))))))), ?_⟩
    obtain ⟨v, r, rfl, ⟨t, rfl, ht⟩, k⟩ := h
    repeat wtm_at "k"
    refine k_ifnd (fun z => absurd (show ((5 : Nat) : Int) = 5 from rfl) z) fun _ => ?_
    repeat wtm_at "k"
    exact k
def sp_l_changes (K : PySem.W.Frag) : Sp := fun vs H Q _ => ∃ f d ys zs rs, vs = [.ref f, .ref d] ∧ H f = some (.lst ys) ∧ SqL K H d zs ∧ Paired (IsR H) ys rs ∧ Paired (IsR H) zs rs ∧ ∀ H', Ext [f] H H' → H' f = some (.lst []) → Q (.bl true) H'
theorem sc_l_changes : FnScope ["_law_found", "_law_due", "_law_one", "_law_good"] ["_law_found", "_law_due"] (defScope s_l_changes) := ⟨rfl, rfl, rfl, by decide +kernel, rfl, by decide +kernel, by decide +kernel⟩
theorem ok_l_changes (T : FX K mg) : FnOk P w K mg base (L2N.CX P w) 3 (He.ga K "_law_changes") (fdAt K ("_law_changes", none)) ["_law_found", "_law_due"] (sp_l_changes K) := by
  refine FunD.ok T.F_l_changes sc_l_changes (fun vs H Q E h => ?_) (fun cdv A outer s H vs Q E hr h => ?_)
  · (repeat (obtain ⟨_, h⟩ := h)); subst_vars; rfl
  · have hu := hu_of hr
    have hu64 := hr.units
    refine ⟨_,
      (pss_cons
        (ps_if (PW.pt (pw_or (pt_not (pt_val (pe_callB call_isi (by rfl) T.f_isinstance (by decide +kernel) (pa_cons (pv 0) (pa_cons (pe_bltT (n := "list") rfl T.f_list (by decide +kernel)) pa_nil))))) (pw_or1 (pt_cmpR oIne (pe_callB oLen (by rfl) T.f_len PySem.boot_len (pa_cons (pv 0) pa_nil)) (pe_callB oLen (by rfl) T.f_len PySem.boot_len (pa_cons (pv 1) pa_nil)) (nomark _)))))
          (pss_one
            (ps_ret pe_bl))
          pss_nil)
      (pss_cons
        (ps_for pod rfl (pi_list (pv 0)) (pg_name (i := 2) sc_l_changes.nd rfl (Or.inl rfl))
          (pss_one
            (ps_if (pt_not (pt_val (pe_callS (ok_l_change T) (hr.mono (j := 2) (by decide)) rfl T.g_l_change T.k_l_change T.b_l_change (fun σ => L2N.passAt tkd σ) (pa_cons (pv 2) pa_nil))))
              (pss_one
                (ps_ret pe_bl))
              pss_nil)))
      (pss_cons
        (ps_set (i := 3) sc_l_changes.nd rfl (Or.inl rfl) (pe_cmpR (op_eqD hu64) (pv 0) (pv 1) (nomark _)))
      (pss_cons
        (ps_expr (pe_bm0 PySem.F.plainAttrs_list PySem.F.slot_list_clear PySem.F.type_list_clear mt_clear (pv 0)))
      (pss_one
        (ps_ret (pv 3))))))), ?_⟩
    obtain ⟨f, d, ys, zs, rs, rfl, hf, hd, py, pz, k⟩ := h
    have R0 : Run [f] H H := Run.start (by wtm_at "lv")
    have len : ys.length = zs.length := by rw [Paired.length py, Paired.length pz]
    repeat wtm_at "k"
    refine k_ifnd (fun c => absurd (congrArg Nat.cast len) c) fun _ => ?_
    repeat wtm_at "k"
    refine l_for (xs := ys) (SqL.of hf) (fun i σ' H4 => H4 = H ∧ ∃ v2, σ' = [some (.ref f), some (.ref d), v2, none]) ⟨rfl, _, rfl⟩ (fun i σ' H4 _ q => by rw [q.1]; exact SqL.of hf) (fun i x σ' H4 ex q => ?_) fun σ' H4 q => ?_
    · obtain ⟨rfl, v2, rfl⟩ := q
      obtain ⟨r, er, hr⟩ := getT py ex
      repeat wtm_at "k"
      refine ⟨_, r, rfl, hr, ?_⟩
      repeat wtm_at "k"
      exact ⟨rfl, _, rfl⟩
    · obtain ⟨rfl, v2, rfl⟩ := q
      repeat wtm_at "k"
      refine l_eqT fR_plain (by wtm_at "sq") (by wtm_at "sq") py pz ?_
      repeat wtm_at "k"
      exact k _ (Run.ext (by assumption)) (by wtm_at "hf")
end
end LW

set_option maxHeartbeats 4000000
namespace LW
open PySem PySem.Spec PyProof.Rows L2
local macro_rules | `(tactic| wtm_at "vk") => `(tactic| first
  | assumption
  | with_reducible exact rv_mine_rows
  | with_reducible exact rv_mine_gone
  | with_reducible exact rv_mine_told
  | exact valV_iv (by assumption)
  | fail)
local macro_rules | `(tactic| wtm_at "pk") => `(tactic| first
  | with_reducible exact putK_iv
  | with_reducible exact dropK_ik
  | with_reducible exact dropK_sk
  | with_reducible exact rp_mine_rows
  | with_reducible exact rp_mine_gone
  | with_reducible exact rp_mine_told
  | assumption
  | fail)
local macro_rules | `(tactic| wtm_at "rm") => `(tactic| first
  | with_reducible exact rm_mine
  | exact rfl
  | fail)
local macro_rules | `(tactic| wtm_at "rl") => `(tactic| first
  | with_reducible exact rl_mine
  | with_reducible assumption
  | fail)
local macro_rules | `(tactic| wtm_at "lk") => `(tactic| with_reducible first
  | exact lk_Log_rows
  | exact lk_Log_gone
  | fail)
local macro_rules | `(tactic| wtm_at "lm") => `(tactic| with_reducible first
  | exact lm_Log_note
  | exact lm_Log_last
  | exact lm_Log_first
  | exact lm_Log_wanted
  | exact lm_Log_forget
  | fail)
local macro_rules | `(tactic| wtm_at "pt") => `(tactic| with_reducible first
  | exact pt_Log_rows
  | exact pt_Log_gone
  | exact pi_Log_0
  | exact pi_Log_1
  | fail)
local macro_rules | `(tactic| wtm_at "lz") => `(tactic| with_reducible first
  | exact lz_Log
  | (simp only [List.length_cons, List.length_nil]; decide)
  | exact (by decide)
  | fail)
local macro_rules | `(tactic| wtm_at "hf") => `(tactic| first
  | assumption
  | (refine' hf_s ?hs ?hx; (case hs => assumption); (case hx => wtm_at "hf"))
  | (refine' hf_n ?hs ?hx ?ne; (case hs => assumption); (case hx => wtm_at "hf"); (case ne => wtm_at "ne"))
  | (refine' hf_e ?hs ?hx ?hy; (case hs => assumption); (case hx => wtm_at "hf"); (case hy => wtm_at "nin"))
  | fail)
local macro_rules | `(tactic| wtm_at "ne") => `(tactic| first
  | assumption
  | (apply Ne.symm; assumption)
  | (refine' ne_of_none ?hx ?hy; (case hy => assumption); (case hx => wtm_at "hf"))
  | (refine' (ne_of_none ?hx ?hy).symm; (case hy => assumption); (case hx => wtm_at "hf"))
  | (refine' ne_of ?hx ?hy ?hz; (case hx => assumption); (case hy => assumption); (case hz => intro z; cases z))
  | fail)
local macro_rules | `(tactic| wtm_at "nin") => `(tactic| first
  | assumption
  | exact notin_nil
  | (refine' notin_cons ?hx ?hy; (case hx => wtm_at "ne"); (case hy => wtm_at "nin"))
  | fail)
local macro_rules | `(tactic| wtm_at "mem") => `(tactic| first
  | assumption
  | exact List.mem_cons_self
  | (refine' List.mem_cons_of_mem _ ?hx; (case hx => wtm_at "mem"))
  | fail)
local macro_rules | `(tactic| wtm_at "wr") => `(tactic| first
  | exact Or.inr (by assumption)
  | exact Or.inl (by wtm_at "mem")
  | fail)
local macro_rules | `(tactic| wtm_at "lv") => `(tactic| first
  | assumption
  | exact Live.nil
  | (refine' Live.cons ?hx ?hy; (case hx => wtm_at "hf"); (case hy => wtm_at "lv"))
  | fail)
local macro_rules | `(tactic| wtm_at "run") => `(tactic| first
  | assumption
  | (refine' Run.same ?hx ?hy; (case hy => assumption); (case hx => wtm_at "run"))
  | fail)
local macro_rules | `(tactic| wtm_at "sq") => `(tactic| first
  | assumption
  | (refine' Run.seq ?hx ?hy; (case hx => assumption); (case hy => assumption))
  | (refine' SqL.of ?hx; (case hx => wtm_at "hf"))
  | (refine' Same.seq ?hx ?hy; (case hx => assumption); (case hy => wtm_at "sq"))
  | (refine' Ext.seqL ?hx ?hz ?hy; (case hx => assumption); (case hy => wtm_at "sq"); (case hz => wtm_at "nin"))
  | fail)
local macro_rules | `(tactic| wtm_at "st") => `(tactic| first
  | assumption
  | (refine' SqT.of ?hx; (case hx => wtm_at "hf"))
  | fail)
local macro_rules | `(tactic| wtm_at "ix") => `(tactic| first
  | assumption
  | exact rfl
  | fail)
local macro_rules | `(tactic| wtm_at "sz") => `(tactic| first
  | wtm_at "rl"
  | with_reducible assumption
  | (rw [ik_len]; wtm_at "sz")
  | (rw [sk_len]; wtm_at "sz")
  | exact small1000 (by assumption)
  | exact small1000 (by omega)
  | exact small1000 (by simp only [List.length_cons, List.length_nil, List.length_append, List.length_map]; omega)
  | fail)
local macro_rules | `(tactic| wtm_at "tx") => `(tactic| first
  | assumption
  | ((with_reducible refine' Tx.app ?hx ?hy); (case hx => wtm_at "tx"); (case hy => wtm_at "tx"))
  | ((with_reducible refine' Tx.cut ?hx); (case hx => wtm_at "tx"))
  | with_reducible exact Tx.nil
  | fail)
local macro_rules | `(tactic| wtm_at "k") => `(tactic| first
  | with_reducible refine k_seq ?_
  | with_reducible refine k_next ?_
  | with_reducible refine k_asg ?_
  | with_reducible refine k_ret ?_
  | with_reducible refine k_retN ?_
  | with_reducible refine k_drop ?_
  | with_reducible refine k_ifS ?_
  | ((with_reducible refine' k_var ?hx ?_); (case hx => exact rfl))
  | with_reducible refine k_c ?_
  | with_reducible refine k_negc ?_
  | with_reducible refine k_neg ?_
  | with_reducible refine l_neg ?_
  | with_reducible refine k_op ?_
  | with_reducible refine k_cb ?_
  | with_reducible refine k_nil ?_
  | with_reducible refine k_cons ?_
  | with_reducible refine k_test ?_
  | with_reducible refine k_B ?_
  | with_reducible refine k_not ?_
  | with_reducible refine k_and ?_
  | with_reducible refine k_or ?_
  | with_reducible refine k_notV ?_
  | with_reducible refine k_andV ?_
  | with_reducible refine k_orV ?_
  | with_reducible refine k_bl ?_
  | with_reducible refine k_add ?_
  | with_reducible refine k_sub ?_
  | ((with_reducible refine' k_mod ?hx ?_); (case hx => first | decide | omega))
  | ((with_reducible refine' k_div ?hx ?_); (case hx => exact ⟨by decide, by decide⟩))
  | ((with_reducible refine' k_mul ?hx ?_); (case hx => first | exact Or.inl ⟨by decide, by decide⟩ | exact Or.inr ⟨by decide, by decide⟩ | exact Or.inl ⟨by omega, by omega⟩))
  | with_reducible refine k_p6 ?_
  | with_reducible refine k_p9 ?_
  | with_reducible refine k_p12 ?_
  | with_reducible refine k_p13 ?_
  | with_reducible refine k_p18 ?_
  | with_reducible refine k_p30 ?_
  | with_reducible refine k_lt ?_
  | with_reducible refine k_le ?_
  | with_reducible refine k_gt ?_
  | with_reducible refine k_ge ?_
  | with_reducible refine k_eq ?_
  | with_reducible refine k_ne ?_
  | with_reducible refine k_seqS ?_
  | with_reducible refine k_neS ?_
  | with_reducible refine k_neB ?_
  | with_reducible refine k_isN ?_
  | with_reducible refine k_noN ?_
  | with_reducible refine k_fld ?_
  | ((with_reducible refine' l_fld ?hx ?hy ?_); (case hx => wtm_at "hf"); (case hy => wtm_at "lk"))
  | with_reducible refine k_fldS ?_
  | ((with_reducible refine' l_fldS ?hr ?hx ?hz ?hy ?hw ?_); (case hr => wtm_at "run"); (case hx => wtm_at "hf"); (case hy => wtm_at "pt"); (case hz => wtm_at "lz"); (case hw => wtm_at "wr"); intro _ _ _ _)
  | ((with_reducible refine' l_new ?hr ?_); (case hr => wtm_at "run"); intro _ _ _ _ _ _ _ _)
  | with_reducible refine k_append ?_
  | ((with_reducible refine' l_tyL ?hx ?_); (case hx => wtm_at "hf"))
  | ((with_reducible refine' l_ins ?hx ?hy ?_); (case hx => wtm_at "hf"); (case hy => wtm_at "lm"))
  | with_reducible refine k_methS ?_
  | with_reducible refine k_methG ?_
  | with_reducible refine k_makeG ?_
  | with_reducible refine k_meth0 ?_
  | with_reducible refine k_callS ?_
  | with_reducible refine k_callE ?_
  | with_reducible refine k_dget ?_
  | with_reducible refine k_din ?_
  | with_reducible refine k_dnotin ?_
  | with_reducible refine k_dput ?_
  | with_reducible refine k_dpop ?_
  | with_reducible refine k_dget2 ?_
  | with_reducible refine k_tup ?_
  | with_reducible refine k_lst ?_
  | with_reducible refine k_dnew ?_
  | ((with_reducible refine' l_tup ?hx ?_); (case hx => simp only [List.length_cons, List.length_nil]; decide))
  | ((with_reducible refine' l_lst ?hx ?_); (case hx => simp only [List.length_cons, List.length_nil]; decide))
  | ((with_reducible refine' l_isD ?hx ?_); (case hx => wtm_at "hf"))
  | ((with_reducible refine' l_dinI ?hx ?_); (case hx => wtm_at "hf"))
  | ((with_reducible refine' l_dinS ?hx ?_); (case hx => wtm_at "hf"))
  | ((with_reducible refine' l_dnotinI ?hx ?_); (case hx => wtm_at "hf"))
  | ((with_reducible refine' l_dnotinS ?hx ?_); (case hx => wtm_at "hf"))
  | ((with_reducible refine' l_dputI ?hr ?hx ?hz ?hy ?hw ?_); (case hr => wtm_at "run"); (case hx => wtm_at "hf"); (case hy => wtm_at "pk"); (case hz => wtm_at "sz"); (case hw => wtm_at "wr"); intro _ _ _ _)
  | ((with_reducible refine' l_dputS ?hr ?hx ?hz ?hy ?hw ?_); (case hr => wtm_at "run"); (case hx => wtm_at "hf"); (case hy => wtm_at "pk"); (case hz => wtm_at "sz"); (case hw => wtm_at "wr"); intro _ _ _ _)
  | ((with_reducible refine' l_dpopI ?hr ?hx ?hz ?hy ?hw ?_); (case hr => wtm_at "run"); (case hx => wtm_at "hf"); (case hy => wtm_at "pk"); (case hz => wtm_at "vk"); (case hw => wtm_at "wr"); intro _ _ _ _)
  | ((with_reducible refine' l_dpopS ?hr ?hx ?hz ?hy ?hw ?_); (case hr => wtm_at "run"); (case hx => wtm_at "hf"); (case hy => wtm_at "pk"); (case hz => wtm_at "vk"); (case hw => wtm_at "wr"); intro _ _ _ _)
  | ((with_reducible refine' l_dgetI ?hx ?hz ?_); (case hx => wtm_at "hf"); (case hz => wtm_at "vk"))
  | ((with_reducible refine' l_dgetS ?hx ?hz ?_); (case hx => wtm_at "hf"); (case hz => wtm_at "vk"))
  | ((with_reducible refine' l_dgetIF ?hx ?hz ?_); (case hx => wtm_at "hf"); (case hz => wtm_at "vk"))
  | ((with_reducible refine' l_dgetSF ?hx ?hz ?_); (case hx => wtm_at "hf"); (case hz => wtm_at "vk"))
  | ((with_reducible refine' k_disp ?hr ?_); (case hr => wtm_at "run"); intro _ _ _ _ _ _ _ _)
  | with_reducible refine k_pcons ?_
  | with_reducible refine k_pnil ?_
  | ((with_reducible refine' l_disp ?hr ?hx ?hu ?hv ?hy ?hw ?_); (case hr => wtm_at "run"); (case hx => wtm_at "hf"); (case hu => exact rfl); (case hv => simp only [List.length_map, List.length_cons, List.length_nil]; decide); (case hy => wtm_at "rm"); (case hw => wtm_at "wr"); intro _ _ _ _)
  | ((with_reducible refine' l_append ?hr ?hx ?hz ?hw ?_); (case hr => wtm_at "run"); (case hx => wtm_at "hf"); (case hz => wtm_at "sz"); (case hw => wtm_at "wr"); intro _ _ _ _)
  | ((with_reducible refine' l_isEt ?hx ?_); (case hx => first | exact isD (ExcK.kit (by assumption) _ (by wtm_at "mem") _ (by wtm_at "mem")) | exact isC (ExcK.kit (by assumption) _ (by wtm_at "mem") _ (by wtm_at "mem")) (by decide)))
  | ((with_reducible refine' l_isEV ?hx ?_); (case hx => exact ExcK.kitV (by assumption) _ (by wtm_at "mem")))
  | ((with_reducible refine' l_isiI ?hx ?_); (case hx => first | rfl | assumption))
  | ((with_reducible refine' l_isiB ?hx ?_); (case hx => first | rfl | assumption))
  | with_reducible refine l_isiSS ?_
  | ((with_reducible refine' l_isiS ?hx ?_); (case hx => first | rfl | assumption))
  | ((with_reducible refine' l_isiL ?hx ?_); (case hx => wtm_at "hf"))
  | ((with_reducible refine' l_isiT ?hx ?_); (case hx => wtm_at "hf"))
  | ((with_reducible refine' l_lenL ?hx ?_); (case hx => wtm_at "sq"))
  | ((with_reducible refine' l_lenT ?hx ?_); (case hx => wtm_at "st"))
  | ((with_reducible refine' l_ixL ?hx ?hy ?_); (case hx => wtm_at "sq"); (case hy => wtm_at "ix"))
  | ((with_reducible refine' l_ixT ?hx ?hy ?_); (case hx => wtm_at "st"); (case hy => wtm_at "ix"))
  | with_reducible refine k_m1 ?_
  | with_reducible refine l_strX ?_
  | with_reducible refine l_sw ?_
  | ((with_reducible refine' x_addS ?hx ?hy ?hz ?_); (case hx => wtm_at "tx"); (case hy => wtm_at "tx"); (case hz => decide))
  | ((with_reducible refine' x_slS ?hx ?hz ?_); (case hx => wtm_at "tx"); (case hz => decide))
  | ((with_reducible refine' x_lenX ?hx ?hz ?_); (case hx => wtm_at "tx"); (case hz => decide))
  | with_reducible refine l_max ?_
  | with_reducible refine l_min ?_
  | with_reducible refine l_abs ?_
  | with_reducible refine k_sl ?_
  | with_reducible refine k_part ?_
  | with_reducible refine l_part ?_
  | with_reducible refine k_nopart ?_
  | with_reducible refine k_yes ?_
  | ((with_reducible refine' l_slL ?hr ?hx ?_); (case hr => wtm_at "run"); (case hx => wtm_at "sq"); intro _ _ _ _ _ _ _ _)
  | with_reducible refine k_lcL ?_
  | with_reducible refine k_lcR ?_
  | with_reducible refine k_for ?_
  | with_reducible refine k_rng1 ?_
  | with_reducible refine k_rng2 ?_
  | with_reducible refine k_rng3 ?_
  | with_reducible refine k_makeS ?_
  | ((with_reducible refine' l_make ?hr ?_); (case hr => wtm_at "run"); intro _ _ _ _ _ _ _ _ _)
  | with_reducible refine k_ntt ?_
  | with_reducible refine k_ntf ?_
  | with_reducible refine k_clear ?_
  | ((with_reducible refine' l_clear ?hr ?hx ?hw ?_); (case hr => wtm_at "run"); (case hx => wtm_at "hf"); (case hw => wtm_at "wr"); intro _ _ _ _)
  | with_reducible refine k_ift ?_
  | with_reducible refine k_iff ?_
  | with_reducible refine g_name ?_
  | fail)
local macro_rules | `(tactic| wtm_at "k") => `(tactic| first
  | with_reducible refine k_wholeI ?_
  | ((with_reducible refine' k_whole ?hx ?_); (case hx => first | rfl | assumption))
  | ((with_reducible refine' k_cell ?hx ?hy ?_); (case hx => first | decide | omega | assumption); (case hy => wtm_at "sq"))
  | fail)
/-! ### a log and its mirror -/
def Num (s : Int) (l : List Row) : Prop := ∀ (i : Nat) (r : Row), l[i]? = some r → r.n = s + (i : Int) + 1
theorem Num.tail {s : Int} {r : Row} {l : List Row} (h : Num s (r :: l)) : Num (s + 1) l := fun i q e => by
  have := h (i + 1) q (by simpa using e)
  rw [this]; omega
theorem Num.drop : ∀ {s : Int} {l : List Row} (g : Nat), Num s l → Num (s + g) (l.drop g)
  | s, l, 0, h => by simpa using h
  | s, [], g + 1, h => fun i r e => by simp at e
  | s, r :: l, g + 1, h => by
    have := Num.drop g h.tail
    rw [List.drop_succ_cons]
    have e : s + ((g + 1 : Nat) : Int) = s + 1 + (g : Int) := by omega
    rw [e]; exact this
theorem Num.filter : ∀ {s : Int} {l : List Row} (u : Int), Num s l → l.filter (fun r => decide (u < r.n)) = l.drop (u - s).toNat
  | s, [], u, h => by simp
  | s, r :: l, u, h => by
    have e : r.n = s + 1 := by have := h 0 r rfl; omega
    have ih := Num.filter u h.tail
    by_cases c : u < r.n
    · rw [List.filter_cons, if_pos (decide_eq_true c), ih]
      have a : (u - s).toNat = 0 := by omega
      have b : (u - (s + 1)).toNat = 0 := by omega
      rw [a, b]; rfl
    · rw [List.filter_cons, if_neg (by simpa using c), ih]
      have a : (u - s).toNat = (u - (s + 1)).toNat + 1 := by omega
      rw [a]; rfl
theorem Num.snoc {s : Int} {l : List Row} {r : Row} (h : Num s l) (e : r.n = s + l.length + 1) : Num s (l ++ [r]) := fun i q eq => by
  rcases Nat.lt_trichotomy i l.length with z | z | z
  · rw [List.getElem?_append_left z] at eq; exact h i q eq
  · rw [z, List.getElem?_append_right (Nat.le_refl _), Nat.sub_self] at eq
    have : r = q := by simpa using eq
    rw [← this, e, z]
  · rw [List.getElem?_append_right (by omega)] at eq
    rw [List.getElem?_eq_none (by simp; omega)] at eq
    cases eq
/-- the log L beside the mirror M: all rows, how many were forgotten -/
structure Jl (L M : LogS) : Prop where
  rw' : L.rows = M.rows.drop M.gone.toNat
  gn : L.gone = M.gone
  g0 : 0 ≤ M.gone
  gl : M.gone ≤ M.rows.length
  nm : Num 0 M.rows
theorem Jl.last {L M : LogS} (J : Jl L M) : L.last = M.rows.length := by
  unfold LogS.last
  rw [J.rw', J.gn, List.length_drop]
  have := J.g0; have := J.gl
  omega
theorem Jl.num {L M : LogS} (J : Jl L M) : Num M.gone L.rows := by
  have := J.nm.drop M.gone.toNat
  rw [J.rw']
  have e : (0 : Int) + (M.gone.toNat : Int) = M.gone := by have := J.g0; omega
  rw [e] at this
  exact this
theorem Jl.len {L M : LogS} (J : Jl L M) : L.rows.length ≤ M.rows.length := by rw [J.rw', List.length_drop]; omega
theorem Jl.new : Jl ⟨[], 0⟩ ⟨[], 0⟩ := ⟨rfl, rfl, by decide, by decide, fun i r e => by simp at e⟩
theorem Jl.note {L M : LogS} (J : Jl L M) {r : Row} (e : r.n = M.rows.length + 1) : Jl (L.note r) (M.note r) := by
  have := J.g0; have := J.gl
  refine ⟨?_, J.gn, J.g0, ?_, J.nm.snoc (by omega)⟩
  · show L.rows ++ [r] = (M.rows ++ [r]).drop M.gone.toNat
    rw [List.drop_append_of_le_length (by omega), J.rw']
  · show M.gone ≤ (M.rows ++ [r]).length
    rw [List.length_append]; omega
theorem Jl.forget {L M : LogS} (J : Jl L M) {u : Int} (h : 0 ≤ u) : Jl (L.forget u) ⟨M.rows, M.gone + max 0 (min u M.rows.length - M.gone)⟩ ∧ L.many u = max 0 (min u M.rows.length - M.gone) := by
  have h0 := J.g0; have h1 := J.gl
  have ek : L.kept u = L.rows.drop (u - M.gone).toNat := J.num.filter u
  have em : L.many u = max 0 (min u M.rows.length - M.gone) := by
    unfold LogS.many
    rw [ek, List.length_drop, J.rw', List.length_drop]
    omega
  refine ⟨⟨?_, ?_, ?_, ?_, J.nm⟩, em⟩
  · show L.kept u = M.rows.drop (M.gone + max 0 (min u M.rows.length - M.gone)).toNat
    rw [ek, J.rw', List.drop_drop]
    by_cases c : u ≤ M.rows.length
    · congr 1; omega
    · rw [List.drop_of_length_le (by omega), List.drop_of_length_le (by omega)]
  · show L.gone + L.many u = M.gone + _
    rw [em, J.gn]
  · show 0 ≤ M.gone + _; omega
  · show M.gone + _ ≤ (M.rows.length : Int); omega
def MineAt (H : Hp) (m : Addr) (F : List Addr) (M : LogS) : Prop :=
  ∃ a c ys, F = [m, a, c] ∧ H m = some (.dK (rc_mine (.ref a) (.int M.gone) (.ref c))) ∧ H a = some (.lst ys) ∧ H c = some (.lst []) ∧ Paired (IsR H) ys M.rows ∧ a ≠ c
theorem MineAt.ext {H H' : Hp} {m : Addr} {F G : List Addr} {M : LogS} (a : MineAt H m F M) (e : Ext G H H') (h : Apart F G) : MineAt H' m F M := by
  obtain ⟨a, c, ys, rfl, h1, h2, h3, h4, n⟩ := a
  exact ⟨a, c, ys, rfl, e.keep _ _ h1 (h _ (by simp)), e.keep _ _ h2 (h _ (by simp)), e.keep _ _ h3 (h _ (by simp)), keepT e.tups h4, n⟩
theorem MineAt.live {H : Hp} {m : Addr} {F : List Addr} {M : LogS} (a : MineAt H m F M) : Live H F := by
  obtain ⟨a, c, ys, rfl, h1, h2, h3, h4, n⟩ := a
  exact Live.cons h1 (Live.cons h2 (Live.cons h3 Live.nil))
def PairAt (K : PySem.W.Frag) (p m : Addr) (N : Nat) (H : Hp) (F : List Addr) : Prop := ∃ F1 F2 L M, F = F1 ++ F2 ∧ Apart F1 F2 ∧ LogAt K H p F1 L ∧ MineAt H m F2 M ∧ Jl L M ∧ M.rows.length ≤ N
theorem Apart.app {F1 F2 G : List Addr} (h : Apart (F1 ++ F2) G) : Apart F1 G ∧ Apart F2 G := ⟨fun c m => h c (List.mem_append.mpr (.inl m)), fun c m => h c (List.mem_append.mpr (.inr m))⟩
theorem Live.app {H : Hp} {F1 F2 : List Addr} (h1 : Live H F1) (h2 : Live H F2) : Live H (F1 ++ F2) := fun c m => (List.mem_append.mp m).elim (h1 c) (h2 c)
theorem Grow.app {H : Hp} {F1 F2 G1 G2 : List Addr} (h1 : Grow H F1 G1) (h2 : Grow H F2 G2) : Grow H (F1 ++ F2) (G1 ++ G2) := fun c m => (List.mem_append.mp m).elim (fun z => (h1 c z).imp_left fun z => List.mem_append.mpr (.inl z)) fun z => (h2 c z).imp_left fun z => List.mem_append.mpr (.inr z)
def pairTh (K : PySem.W.Frag) (p m : Addr) (N : Nat) : Thing where
  At := PairAt K p m N
  ext := fun ⟨F1, F2, L, M, e1, ap, hL, hM, J, z⟩ e h => by
    subst e1
    exact ⟨F1, F2, L, M, rfl, ap, hL.ext e h.app.1, hM.ext e h.app.2, J, z⟩
  live := fun ⟨F1, F2, L, M, e1, ap, hL, hM, J, z⟩ => by
    subst e1
    exact hL.live.app hM.live
section
variable {P : Program} {w : World} {K : PySem.W.Frag} {mg : Str → Option Value} {base : Heap}
def sp_l_wanted (K : PySem.W.Frag) : Sp := fun vs H Q _ => ∃ m G M pre behind most n, vs = [.ref m, .str pre, .int behind, .int most] ∧ MineAt H m G M ∧ 0 ≤ M.gone ∧ 0 ≤ most ∧ M.rows.length ≤ 900 ∧ Tx n pre ∧ n ≤ 1000 ∧
  ∀ l H' ys, H l = none → Ext [] H H' → H' l = some (.lst ys) → Paired (IsR H') ys ((⟨M.rows.drop M.gone.toNat, M.gone⟩ : LogS).wanted pre behind most) → Q (.ref l) H'
theorem sc_l_wanted : FnScope ["_law_mine", "_law_prefix_here", "_law_behind", "_law_most", "_law_due", "_law_row"] ["_law_mine", "_law_prefix_here", "_law_behind", "_law_most"] (defScope s_l_wanted) := ⟨rfl, rfl, rfl, by decide +kernel, rfl, by decide +kernel, by decide +kernel⟩
theorem ok_l_wanted (T : FX K mg) : FnOk P w K mg base (L2N.CX P w) 1 (He.ga K "_law_wanted") (fdAt K ("_law_wanted", none)) ["_law_mine", "_law_prefix_here", "_law_behind", "_law_most"] (sp_l_wanted K) := by
  refine FunD.ok T.F_l_wanted sc_l_wanted (fun vs H Q E h => ?_) (fun cdv A outer s H vs Q E hr h => ?_)
  · (repeat (obtain ⟨_, h⟩ := h)); subst_vars; rfl
  · have hu := hu_of hr
    have hu64 := hr.units
    refine ⟨_,
      (pss_cons
        (ps_set (i := 4) sc_l_wanted.nd rfl (Or.inl rfl) (pe_lst pa_nil))
      (pss_cons
        (ps_for pod rfl (pi_list (pe_slice sl_list (pe_dget hu (pv 0) pe_str (fun _ _ => rfl)) (po_some (pe_dget hu (pv 0) pe_str (fun _ _ => rfl))) po_none)) (pg_name (i := 5) sc_l_wanted.nd rfl (Or.inl rfl))
          (pss_one
            (ps_if (PW.pt (pw_and (pt_cmpR oIgt (pe_ix ix_tup (pv 5) pe_int (fun _ _ => rfl)) (pv 2) (nomark _)) (pw_and1 (pt_cmpR oSeq (pe_slice sl_str (pe_ix ix_tup (pv 5) pe_int (fun _ _ => rfl)) po_none (po_some (pe_callB oLenX (by rfl) T.f_len PySem.boot_len (pa_cons (pv 1) pa_nil)))) (pv 1) (nomark _)))))
              (pss_one
                (ps_expr (pe_bm PySem.F.plainAttrs_list PySem.F.slot_list_append PySem.F.type_list_append mt_append (pv 4) (pa_cons (pv 5) pa_nil))))
              pss_nil)))
      (pss_one
        (ps_ret (pe_slice sl_list (pv 4) po_none (po_some (pv 3))))))), ?_⟩
    obtain ⟨m, G, M, pre, behind, most, n, rfl, ⟨a, c, ys, rfl, h1, h2, h3, h4, nac⟩, g0, m0, z, tx, zn, k⟩ := h
    have R0 : Run [] H H := Run.start Live.nil
    have eg : M.gone = ((M.gone.toNat : Nat) : Int) := by omega
    have em : most = ((most.toNat : Nat) : Int) := by omega
    have lp : pre.length ≤ sizeLine := Tx.small tx zn
    repeat wtm_at "k"
    rename_i l H1 f1 f2 f3 r1 g1 s1 D H2 q1 q2 q3 r2 g2 s2
    have eD : cutV ys (some M.gone) none = ys.drop M.gone.toNat := by have := cutV_from (xs := ys) (n := M.gone.toNat); rwa [← eg] at this
    rw [eD] at g2
    have pD := dropT M.gone.toNat h4
    have nlD : l ≠ D := ne_of_none g1 q3
    have b1 : H2 l = some (.lst []) := by wtm_at "hf"
    refine l_for (xs := ys.drop M.gone.toNat) (SqL.of g2) (fun i σ' H' => ∃ x5 acc, σ' = [some (.ref m), some (.str pre), some (.int behind), some (.int most), some (.ref l), x5] ∧ Run [] H H' ∧ H' l = some (.lst acc) ∧ H' D = some (.lst (ys.drop M.gone.toNat)) ∧
      Paired (IsR H') acc (((M.rows.drop M.gone.toNat).take i).filter fun r => decide (behind < r.n) && begins r.k pre)) ?h0 ?hl ?hs ?hd
    case h0 => exact ⟨_, _, rfl, by assumption, b1, g2, by simpa using Paired.nil⟩
    case hl => exact fun i σ' H' _ ⟨_, _, _, _, _, h, _⟩ => SqL.of h
    case hs =>
      intro i x σ' H' ex ⟨x5, acc, es, rr, ha, hD, hp⟩
      subst es
      obtain ⟨r, er, t, rfl, ht⟩ := getT pD ex
      have ht' : H' t = some (.tup (fR r)) := rr.ext.tups _ _ ht
      have hacc : acc.length ≤ 1000 := by
        have := Paired.length hp
        have := List.length_filter_le (fun r => decide (behind < r.n) && begins r.k pre) ((M.rows.drop M.gone.toNat).take i)
        have := List.length_take_le' i (M.rows.drop M.gone.toNat)
        rw [List.length_drop] at this
        omega
      have stay : (decide (behind < r.n) && begins r.k pre) = false → ∃ x5 acc, ([some (.ref m), some (.str pre), some (.int behind), some (.int most), some (.ref l), some (.ref t)] : St) = [some (.ref m), some (.str pre), some (.int behind), some (.int most), some (.ref l), x5] ∧ Run [] H H' ∧ H' l = some (.lst acc) ∧ H' D = some (.lst (ys.drop M.gone.toNat)) ∧
          Paired (IsR H') acc (((M.rows.drop M.gone.toNat).take (i + 1)).filter fun r => decide (behind < r.n) && begins r.k pre) := fun z => by
        refine ⟨_, acc, rfl, rr, ha, hD, ?_⟩
        rw [filter_take_snoc er, if_neg (by rw [z]; exact Bool.false_ne_true), List.append_nil]
        exact hp
      have okk := r.ok
      repeat wtm_at "k"
      refine k_ifd (fun c1 => ?_) fun c1 => ?_
      · repeat wtm_at "k"
        refine l_lenX lp ?_
        repeat wtm_at "k"
        rw [cut_begin]
        refine k_if (fun c2 => ?_) fun c2 => ?_
        · repeat wtm_at "k"
          rename_i H3 r3 g3 n3
          refine ⟨_, _, rfl, by assumption, g3, by wtm_at "hf", ?_⟩
          rw [filter_take_snoc er, if_pos (by rw [decide_eq_true c1, c2]; rfl)]
          exact snocT (keepT (fun a xs h => by wtm_at "hf") hp) ⟨t, rfl, by wtm_at "hf"⟩
        · refine k_next (stay (by rw [c2, Bool.and_false]))
      · repeat wtm_at "k"
        exact stay (by rw [decide_eq_false c1]; rfl)
    case hd =>
      rintro σ' H' ⟨x5, acc, rfl, rr, ha, hD, hp⟩
      have e : (M.rows.drop M.gone.toNat).take (ys.drop M.gone.toNat).length = M.rows.drop M.gone.toNat := by rw [Paired.length pD, List.take_length]
      rw [e] at hp
      repeat wtm_at "k"
      rename_i D2 H3 u1 u2 u3 r3 g3 s3
      have e2 : cutV acc none (some most) = acc.take most.toNat := by have := cutV_to (xs := acc) (n := most.toNat); rwa [← em] at this
      rw [e2] at g3
      refine k D2 H3 _ u1 (Run.ext (by assumption)) g3 ?_
      exact takeT _ (keepT (fun a xs h => by wtm_at "hf") hp)
def sp_l_noted (K : PySem.W.Frag) : Sp := fun vs H Q _ => ∃ p m N F pp ts cell more, vs = [.ref p, .ref m, .ref pp, .int cell, .int more] ∧ PairAt K p m N H F ∧ PoolAt H pp ts ∧ N ≤ 900 ∧
  ∀ H' F', PairAt K p m (N + 1) H' F' → Grow H F F' → Ext F H H' → Q (.bl true) H'
theorem sc_l_noted : FnScope ["_law_log", "_law_mine", "_law_pool_here", "_law_cell", "_law_more", "_law_value", "_law_tick", "_law_row", "_law_found"] ["_law_log", "_law_mine", "_law_pool_here", "_law_cell", "_law_more"] (defScope s_l_noted) := ⟨rfl, rfl, rfl, by decide +kernel, rfl, by decide +kernel, by decide +kernel⟩
theorem ok_l_noted (T : FX K mg) : FnOk P w K mg base (L2N.CX P w) 3 (He.ga K "_law_noted") (fdAt K ("_law_noted", none)) ["_law_log", "_law_mine", "_law_pool_here", "_law_cell", "_law_more"] (sp_l_noted K) := by
  refine FunD.ok T.F_l_noted sc_l_noted (fun vs H Q E h => ?_) (fun cdv A outer s H vs Q E hr h => ?_)
  · (repeat (obtain ⟨_, h⟩ := h)); subst_vars; rfl
  · have hu := hu_of hr
    have hu64 := hr.units
    refine ⟨_,
      (pss_cons
        (ps_set (i := 5) sc_l_noted.nd rfl (Or.inl rfl) (pe_callS (ok_l_text T) (hr.mono (j := 2) (by decide)) rfl T.g_l_text T.k_l_text T.b_l_text (fun σ => L2N.passAt tkd σ) (pa_cons (pv 4) (pa_cons (pe_ix ix_list (pe_lst (pa_cons (pe_op oImod (pv 3) pe_int) (pa_cons (pe_op oImod (pv 4) pe_int) pa_nil))) (pe_op oIdiv (pe_op oImod (pe_op oIdiv (pv 3) pe_int) pe_int) pe_int) (fun _ _ => rfl)) pa_nil))))
      (pss_cons
        (ps_set (i := 6) sc_l_noted.nd rfl (Or.inl rfl) (pe_op oImod (pv 4) pe_int))
      (pss_cons
        (ps_if (pt_cmpR (op_neD hu64) (pe_dget hu (pv 1) pe_str (fun _ _ => rfl)) (pe_lst pa_nil) (nomark _))
          (pss_one
            (ps_set (i := 6) sc_l_noted.nd rfl (Or.inl rfl) (pe_op oIadd (pe_op oImod (pv 6) pe_int) (pe_ix ix_tup (pe_ix ix_list (pe_dget hu (pv 1) pe_str (fun _ _ => rfl)) (pe_un un_neg pe_int) (fun _ _ => rfl)) pe_int (fun _ _ => rfl)))))
          pss_nil)
      (pss_cons
        (ps_set (i := 7) sc_l_noted.nd rfl (Or.inl rfl) (pe_tup (pa_cons (pe_op oIadd (pe_callB oLen (by rfl) T.f_len PySem.boot_len (pa_cons (pe_dget hu (pv 1) pe_str (fun _ _ => rfl)) pa_nil)) pe_int) (pa_cons (pv 6) (pa_cons (pe_ix ix_list (pe_lst (pa_cons pe_str (pa_cons pe_str pa_nil))) (pe_op oImod (pv 3) pe_int) (fun _ _ => rfl)) (pa_cons (pe_ix ix_list (pv 2) (pe_op oImod (pe_op oIdiv (pv 3) pe_int) pe_int) (fun _ _ => rfl)) (pa_cons (pe_ix ix_list (pe_lst (pa_cons (pv 5) (pa_cons pe_str pa_nil))) (pe_op oImod (pv 3) pe_int) (fun _ _ => rfl)) pa_nil)))))))
      (pss_cons
        (ps_expr (pe_bm PySem.F.plainAttrs_list PySem.F.slot_list_append PySem.F.type_list_append mt_append (pe_dget hu (pv 1) pe_str (fun _ _ => rfl)) (pa_cons (pv 7) pa_nil)))
      (pss_cons
        (ps_set (i := 8) sc_l_noted.nd rfl (Or.inl rfl) (pe_methS (pv 0) T.cl_Log T.me_Log_note (ok_Log_note T) (hr.mono (j := 2) (by decide)) T.b_Log_note (fun σ => L2N.passAt tkd σ) (pa_cons (pe_ix ix_tup (pv 7) pe_int (fun _ _ => rfl)) (pa_cons (pe_ix ix_tup (pv 7) pe_int (fun _ _ => rfl)) (pa_cons (pe_ix ix_tup (pv 7) pe_int (fun _ _ => rfl)) (pa_cons (pe_ix ix_tup (pv 7) pe_int (fun _ _ => rfl)) pa_nil))))))
      (pss_one
        (ps_ret (pe_and (pe_callS (ok_l_whole T) (hr.mono (j := 1) (by decide)) rfl T.g_l_whole T.k_l_whole T.b_l_whole (fun σ => L2N.passAt tkd σ) (pa_cons (pv 8) pa_nil)) (pe_one (pe_cmpR oIeq (pv 8) (pe_ix ix_tup (pv 7) pe_int (fun _ _ => rfl)) (nomark _)))))))))))), ?_⟩
    obtain ⟨p, m, N, F, pp, ts, cell, more, rfl, ⟨F1, F2, L, M, rfl, ap, hL, ⟨a, c, ys, rfl, h1, h2, h3, h4, nac⟩, J, zN⟩, hpp, z, k⟩ := h
    obtain ⟨d, ed, hd⟩ : ∃ d, atI (([cell % 5, more % 41] : List Int).map V.int) (cell / 12 % 5 / 4) = some (.int d) ∧ 0 ≤ d ∧ d ≤ 41 := by
      have h : cell / 12 % 5 / 4 = 0 ∨ cell / 12 % 5 / 4 = 1 := by omega
      rcases h with h | h <;> rw [h] <;> exact ⟨_, rfl, by omega, by omega⟩
    have R0 : Run [m, a, c] H H := Run.start (by wtm_at "lv")
    repeat wtm_at "k"
    refine ⟨_, d, rfl, by omega, by omega, fun value H1 o1 e1 => ?_⟩
    repeat wtm_at "k"
    refine l_neT0 fR_plain (ds := M.rows) (by wtm_at "sq") (by wtm_at "sq") (keepT (fun a xs h => by wtm_at "hf") h4) ?_
    rename_i p1 H2 f1 f2 f3 r2 g2 s2
    refine k_bl ?_
    obtain ⟨wd, ew, xw⟩ := ixTx (m := 1000) (xs := ["put", "cut"]) (n := cell % 2) (by omega) (by show _ < (2 : Int); omega) (txA (by decide +kernel))
    obtain ⟨key, ek, xk⟩ := hpp.get (n := cell / 2 % 6) (by omega) (by omega)
    obtain ⟨val, ev, xv⟩ := ixTx (m := 1000) (xs := [value, ""]) (n := cell % 2) (by omega) (by show _ < (2 : Int); omega) (by
      intro s hs
      simp only [List.mem_cons, List.not_mem_nil, or_false] at hs
      rcases hs with rfl | rfl
      · exact o1.mono (by decide)
      · exact Tx.nil.mono (by decide))
    have xk := xk.mono (n := 1000) (by decide)
    have hp2 := keepT (fun a xs h => by wtm_at "hf") h4
    have hppo : H2 pp = some (.lst (ts.map V.str)) := by have := hpp.at'; wtm_at "hf"
    have zy : ys.length ≤ 1000 := by rw [Paired.length h4]; omega
    refine k_fork (fun σ' H' => ∃ t : Int, σ' = [some (.ref p), some (.ref m), some (.ref pp), some (.int cell), some (.int more), some (.str value), some (.int t), none, none] ∧ H2 = H') (fun nx' ky => ?_) ?_
    · refine k_if (fun c1 => ?_) fun c1 => ?_
      · have ne : ys.length - 1 < ys.length := by
          have : M.rows.length ≠ 0 := fun z => by rw [List.length_eq_zero_iff] at z; rw [z] at c1; cases c1
          have := Paired.length h4
          omega
        obtain ⟨r, er, q, eq, hq⟩ := getT hp2 (List.getElem?_eq_getElem ne)
        have el : atI ys (-1) = some (.ref q) := by rw [← eq]; exact atI_last (List.getElem?_eq_getElem ne)
        repeat wtm_at "k"
        exact ky _ _ ⟨_, rfl, rfl⟩
      · repeat wtm_at "k"
        exact ky _ _ ⟨_, rfl, rfl⟩
    · rintro _ _ ⟨t, rfl, rfl⟩
      obtain ⟨pr, dx, yl, rfl, npr, l1, l2, l3⟩ := id hL
      repeat wtm_at "k"
      rename_i pt H3 f3a f3b f3c r3 g3 s3 H4 r4 g4 n4
      have e4 : Ext [m, a, c] H H4 := Run.ext (by assumption)
      have hL4 := hL.ext e4 ap
      have len : (ys.length : Int) = M.rows.length := by rw [Paired.length h4]
      have last : L.last = M.rows.length := J.last
      have jl := J.len
      refine ⟨p, _, L, t, wd, key, val, xw, xk, xv, rfl, hL4, by omega, fun H5 hL5 e5 => ?_⟩
      have hm4 : MineAt H4 m [m, a, c] (M.note ⟨L.last + 1, t, wd, key, val, xw, xk, xv⟩) := by
        refine ⟨a, c, ys ++ [.ref pt], rfl, ?_, ?_, ?_, ?_, nac⟩
        · wtm_at "hf"
        · wtm_at "hf"
        · wtm_at "hf"
        · refine snocT (keepT (fun a xs h => by wtm_at "hf") h4) ⟨pt, rfl, ?_⟩
          show H4 pt = some (.tup [.int (L.last + 1), _, _, _, _])
          rw [last, ← len]
          wtm_at "hf"
      have hm5 := hm4.ext e5 ap.symm
      have hpt : H5 pt = some (.tup [V.int (ys.length + 1), V.int t, V.str wd, V.str key, V.str val]) := e5.tups _ _ (by wtm_at "hf")
      repeat wtm_at "k"
      rw [last, len, decide_eq_true rfl]
      refine k H5 ([p, pr] ++ [m, a, c]) ⟨_, _, _, _, rfl, ap, hL5, hm5, J.note (by show L.last + 1 = _; rw [last]), ?_⟩ (Grow.refl _ _) ((e4.sub ?_).trans (e5.sub ?_))
      · show (M.rows ++ [_]).length ≤ N + 1
        rw [List.length_append]; simp; omega
      · intro c hc; exact List.mem_append.mpr (.inr hc)
      · intro c hc; exact List.mem_append.mpr (.inl hc)
def sp_l_forgot (K : PySem.W.Frag) : Sp := fun vs H Q _ => ∃ p m N F cell, vs = [.ref p, .ref m, .int cell] ∧ PairAt K p m N H F ∧ N ≤ 900 ∧
  ∀ H' F', PairAt K p m N H' F' → Grow H F F' → Ext F H H' → Q (.bl true) H'
theorem sc_l_forgot : FnScope ["_law_log", "_law_mine", "_law_cell", "_law_upto", "_law_due", "_law_found"] ["_law_log", "_law_mine", "_law_cell"] (defScope s_l_forgot) := ⟨rfl, rfl, rfl, by decide +kernel, rfl, by decide +kernel, by decide +kernel⟩
theorem ok_l_forgot (T : FX K mg) : FnOk P w K mg base (L2N.CX P w) 2 (He.ga K "_law_forgot") (fdAt K ("_law_forgot", none)) ["_law_log", "_law_mine", "_law_cell"] (sp_l_forgot K) := by
  refine FunD.ok T.F_l_forgot sc_l_forgot (fun vs H Q E h => ?_) (fun cdv A outer s H vs Q E hr h => ?_)
  · (repeat (obtain ⟨_, h⟩ := h)); subst_vars; rfl
  · have hu := hu_of hr
    have hu64 := hr.units
    refine ⟨_,
      (pss_cons
        (ps_set (i := 3) sc_l_forgot.nd rfl (Or.inl rfl) (pe_op oImod (pv 2) (pe_op oIadd (pe_callB oLen (by rfl) T.f_len PySem.boot_len (pa_cons (pe_dget hu (pv 1) pe_str (fun _ _ => rfl)) pa_nil)) pe_int)))
      (pss_cons
        (ps_set (i := 4) sc_l_forgot.nd rfl (Or.inl rfl) (pe_callB (oMax rfl) (by rfl) T.f_max (by decide +kernel) (pa_cons pe_int (pa_cons (pe_op oIsub (pe_callB (oMin rfl) (by rfl) T.f_min (by decide +kernel) (pa_cons (pv 3) (pa_cons (pe_callB oLen (by rfl) T.f_len PySem.boot_len (pa_cons (pe_dget hu (pv 1) pe_str (fun _ _ => rfl)) pa_nil)) pa_nil))) (pe_dget hu (pv 1) pe_str (fun _ _ => rfl))) pa_nil))))
      (pss_cons
        (ps_dput hu (pv 1) pe_str (pe_op oIadd (pe_dget hu (pv 1) pe_str (fun _ _ => rfl)) (pv 4)) rfl)
      (pss_cons
        (ps_set (i := 5) sc_l_forgot.nd rfl (Or.inl rfl) (pe_methS (pv 0) T.cl_Log T.me_Log_forget (ok_Log_forget T) (hr.mono (j := 1) (by decide)) T.b_Log_forget (fun σ => L2N.passAt tkd σ) (pa_cons (pv 3) pa_nil)))
      (pss_one
        (ps_ret (pe_and (pe_callS (ok_l_whole T) (hr.mono (j := 1) (by decide)) rfl T.g_l_whole T.k_l_whole T.b_l_whole (fun σ => L2N.passAt tkd σ) (pa_cons (pv 5) pa_nil)) (pe_one (pe_cmpR oIeq (pv 5) (pv 4) (nomark _)))))))))), ?_⟩
    obtain ⟨p, m, N, F, cell, rfl, ⟨F1, F2, L, M, rfl, ap, hL, ⟨a, c, ys, rfl, h1, h2, h3, h4, nac⟩, J, zN⟩, z, k⟩ := h
    have len : (ys.length : Int) = M.rows.length := by rw [Paired.length h4]
    have R0 : Run [m, a, c] H H := Run.start (by wtm_at "lv")
    obtain ⟨pr, dx, yl, rfl, npr, l1, l2, l3⟩ := id hL
    repeat wtm_at "k"
    rename_i H1 r1 g1 n1
    have e1 : Ext [m, a, c] H H1 := Run.ext (by assumption)
    have hL1 := hL.ext e1 ap
    have jl := J.len
    rw [len] at *
    generalize eu : cell % ((M.rows.length : Int) + 3) = u at *
    have hu0 : 0 ≤ u := by rw [← eu]; exact Int.emod_nonneg _ (by omega)
    obtain ⟨J2, em⟩ := J.forget hu0
    refine ⟨p, _, L, u, rfl, hL1, by omega, fun H2 F2 hL2 gr e2 => ?_⟩
    have hm1 : MineAt H1 m [m, a, c] ⟨M.rows, M.gone + max 0 (min u M.rows.length - M.gone)⟩ :=
      ⟨a, c, ys, rfl, g1, by wtm_at "hf", by wtm_at "hf", keepT (fun a xs h => by wtm_at "hf") h4, nac⟩
    have hm2 := hm1.ext e2 ap.symm
    rw [em]
    repeat wtm_at "k"
    rw [decide_eq_true rfl]
    have gr2 : Grow H [p, pr] F2 := Grow.of fun c hc => (gr c hc).elim .inl fun z => .inr (e1.free z fun h => hm1.live _ h z)
    refine k H2 (F2 ++ [m, a, c]) ⟨_, _, _, _, rfl, ?_, hL2, hm2, J2, zN⟩ (gr2.app (Grow.refl _ _)) ((e1.sub ?_).trans (e2.sub ?_))
    · exact ap.grow gr hm1.live
    · intro c hc; exact List.mem_append.mpr (.inr hc)
    · intro c hc; exact List.mem_append.mpr (.inl hc)
def sp_l_ends (K : PySem.W.Frag) : Sp := fun vs H Q _ => ∃ p m N F, vs = [.ref p, .ref m] ∧ PairAt K p m N H F ∧ Q (.bl true) H
theorem sc_l_ends : FnScope ["_law_log", "_law_mine", "_law_last", "_law_first"] ["_law_log", "_law_mine"] (defScope s_l_ends) := ⟨rfl, rfl, rfl, by decide +kernel, rfl, by decide +kernel, by decide +kernel⟩
theorem ok_l_ends (T : FX K mg) : FnOk P w K mg base (L2N.CX P w) 2 (He.ga K "_law_ends") (fdAt K ("_law_ends", none)) ["_law_log", "_law_mine"] (sp_l_ends K) := by
  refine FunD.ok T.F_l_ends sc_l_ends (fun vs H Q E h => ?_) (fun cdv A outer s H vs Q E hr h => ?_)
  · (repeat (obtain ⟨_, h⟩ := h)); subst_vars; rfl
  · have hu := hu_of hr
    have hu64 := hr.units
    refine ⟨_,
      (pss_cons
        (ps_set (i := 2) sc_l_ends.nd rfl (Or.inl rfl) (pe_meth0S (pv 0) T.cl_Log T.me_Log_last (ok_Log_last T) (hr.mono (j := 1) (by decide)) T.b_Log_last (fun σ => L2N.passAt tkd σ)))
      (pss_cons
        (ps_set (i := 3) sc_l_ends.nd rfl (Or.inl rfl) (pe_meth0S (pv 0) T.cl_Log T.me_Log_first (ok_Log_first T) (hr.mono (j := 1) (by decide)) T.b_Log_first (fun σ => L2N.passAt tkd σ)))
      (pss_cons
        (ps_if (PW.pt (pw_or (pt_not (pt_val (pe_callS (ok_l_whole T) (hr.mono (j := 1) (by decide)) rfl T.g_l_whole T.k_l_whole T.b_l_whole (fun σ => L2N.passAt tkd σ) (pa_cons (pv 2) pa_nil)))) (pw_or1 (pt_not (pt_val (pe_callS (ok_l_whole T) (hr.mono (j := 1) (by decide)) rfl T.g_l_whole T.k_l_whole T.b_l_whole (fun σ => L2N.passAt tkd σ) (pa_cons (pv 3) pa_nil)))))))
          (pss_one
            (ps_ret pe_bl))
          pss_nil)
      (pss_one
        (ps_ret (pe_and (pe_cmpR oIeq (pv 2) (pe_callB oLen (by rfl) T.f_len PySem.boot_len (pa_cons (pe_dget hu (pv 1) pe_str (fun _ _ => rfl)) pa_nil)) (nomark _)) (pe_one (pe_cmpR oIeq (pv 3) (pe_op oIadd (pe_dget hu (pv 1) pe_str (fun _ _ => rfl)) pe_int) (nomark _))))))))), ?_⟩
    obtain ⟨p, m, N, F, rfl, ⟨F1, F2, L, M, rfl, ap, hL, ⟨a, c, ys, rfl, h1, h2, h3, h4, nac⟩, J, zN⟩, k⟩ := h
    have len : (ys.length : Int) = M.rows.length := by rw [Paired.length h4]
    obtain ⟨pr, dx, yl, rfl, npr, l1, l2, l3⟩ := id hL
    repeat wtm_at "k"
    refine ⟨p, _, L, rfl, hL, ?_⟩
    repeat wtm_at "k"
    refine ⟨p, _, L, rfl, hL, ?_⟩
    repeat wtm_at "k"
    rw [J.last, len, decide_eq_true rfl]
    repeat wtm_at "k"
    rw [J.gn, decide_eq_true rfl]
    exact k
def sp_l_step (K : PySem.W.Frag) : Sp := fun vs H Q _ => ∃ p m N F pp ts kind cell, vs = [.ref p, .ref m, .ref pp, .int kind, .int cell] ∧ PairAt K p m N H F ∧ PoolAt H pp ts ∧ N ≤ 800 ∧
  ∀ H' F', PairAt K p m (N + 1) H' F' → Grow H F F' → Ext F H H' → Q (.bl true) H'
theorem sc_l_step : FnScope ["_law_log", "_law_mine", "_law_pool_here", "_law_kind", "_law_cell", "_law_prefix_here", "_law_behind", "_law_most"] ["_law_log", "_law_mine", "_law_pool_here", "_law_kind", "_law_cell"] (defScope s_l_step) := ⟨rfl, rfl, rfl, by decide +kernel, rfl, by decide +kernel, by decide +kernel⟩
theorem ok_l_step (T : FX K mg) : FnOk P w K mg base (L2N.CX P w) 4 (He.ga K "_law_step") (fdAt K ("_law_step", none)) ["_law_log", "_law_mine", "_law_pool_here", "_law_kind", "_law_cell"] (sp_l_step K) := by
  refine FunD.ok T.F_l_step sc_l_step (fun vs H Q E h => ?_) (fun cdv A outer s H vs Q E hr h => ?_)
  · (repeat (obtain ⟨_, h⟩ := h)); subst_vars; rfl
  · have hu := hu_of hr
    have hu64 := hr.units
    refine ⟨_,
      (pss_cons
        (ps_if (pt_cmpR oIeq (pe_op oImod (pe_op oIdiv (pv 3) pe_int) pe_int) pe_int (nomark _))
          (pss_one
            (ps_ret (pe_callS (ok_l_forgot T) (hr.mono (j := 2) (by decide)) rfl T.g_l_forgot T.k_l_forgot T.b_l_forgot (fun σ => L2N.passAt tkd σ) (pa_cons (pv 0) (pa_cons (pv 1) (pa_cons (pv 4) pa_nil))))))
          pss_nil)
      (pss_cons
        (ps_if (pt_cmpR oIeq (pe_op oImod (pe_op oIdiv (pv 3) pe_int) pe_int) pe_int (nomark _))
          (pss_cons
            (ps_set (i := 5) sc_l_step.nd rfl (Or.inl rfl) (pe_callS (ok_l_prefix T) (hr.mono (j := 1) (by decide)) rfl T.g_l_prefix T.k_l_prefix T.b_l_prefix (fun σ => L2N.passAt tkd σ) (pa_cons (pv 2) (pa_cons (pe_op oIdiv (pv 3) pe_int) pa_nil))))
          (pss_cons
            (ps_set (i := 6) sc_l_step.nd rfl (Or.inl rfl) (pe_op oImod (pv 4) (pe_op oIadd (pe_callB oLen (by rfl) T.f_len PySem.boot_len (pa_cons (pe_dget hu (pv 1) pe_str (fun _ _ => rfl)) pa_nil)) pe_int)))
          (pss_cons
            (ps_set (i := 7) sc_l_step.nd rfl (Or.inl rfl) (pe_ix ix_list (pe_lst (pa_cons (pe_op oImod (pe_op oIdiv (pv 3) pe_int) pe_int) (pa_cons (pe_op oImod (pe_op oIdiv (pv 3) pe_int) pe_int) pa_nil))) (pe_op oImod (pv 4) pe_int) (fun _ _ => rfl)))
          (pss_one
            (ps_ret (pe_callS (ok_l_changes T) (hr.mono (j := 3) (by decide)) rfl T.g_l_changes T.k_l_changes T.b_l_changes (fun σ => L2N.passAt tkd σ) (pa_cons (pe_methS (pv 0) T.cl_Log T.me_Log_wanted (ok_Log_wanted T) (hr.mono (j := 1) (by decide)) T.b_Log_wanted (fun σ => L2N.passAt tkd σ) (pa_cons (pv 5) (pa_cons (pv 6) (pa_cons (pv 7) pa_nil)))) (pa_cons (pe_callS (ok_l_wanted T) (hr.mono (j := 1) (by decide)) rfl T.g_l_wanted T.k_l_wanted T.b_l_wanted (fun σ => L2N.passAt tkd σ) (pa_cons (pv 1) (pa_cons (pv 5) (pa_cons (pv 6) (pa_cons (pv 7) pa_nil))))) pa_nil))))))))
          pss_nil)
      (pss_one
        (ps_ret (pe_callS (ok_l_noted T) (hr.mono (j := 3) (by decide)) rfl T.g_l_noted T.k_l_noted T.b_l_noted (fun σ => L2N.passAt tkd σ) (pa_cons (pv 0) (pa_cons (pv 1) (pa_cons (pv 2) (pa_cons (pe_op oIdiv (pv 3) pe_int) (pa_cons (pe_callB oAbs (by rfl) T.f_abs (by decide +kernel) (pa_cons (pv 4) pa_nil)) pa_nil)))))))))), ?_⟩
    obtain ⟨p, m, N, F, pp, ts, kind, cell, rfl, hp, hpp, z, k⟩ := h
    repeat wtm_at "k"
    refine k_ifd (fun c1 => ?_) fun c1 => ?_
    · repeat wtm_at "k"
      refine ⟨p, m, N, F, cell, rfl, hp, by omega, fun H' F' h g e => k H' F' ?_ g e⟩
      obtain ⟨F1, F2, L, M, e1, ap, hL, hM, J, zN⟩ := h
      exact ⟨F1, F2, L, M, e1, ap, hL, hM, J, by omega⟩
    repeat wtm_at "k"
    refine k_ifd (fun c2 => ?_) fun c2 => ?_
    · repeat wtm_at "k"
      refine ⟨pp, ts, _, rfl, hpp, fun s H1 xs e1 => ?_⟩
      obtain ⟨F1, F2, L, M, rfl, ap, hL, hM, J, zN⟩ := id hp
      obtain ⟨a, c, ys, rfl, h1, h2, h3, h4, nac⟩ := id hM
      have zero : ∀ G : List Addr, Apart G [] := fun G c _ z => by cases z
      obtain ⟨pr, dx, yl, rfl, npr, l1, l2, l3⟩ := id hL
      have R1 : Run [] H H1 := (Run.start Live.nil).same e1
      obtain ⟨d, ed, hd⟩ : ∃ d, atI (([kind / 56 % 5, kind / 56 % 97] : List Int).map V.int) (cell % 2) = some (.int d) ∧ 0 ≤ d := by
        have h : cell % 2 = 0 ∨ cell % 2 = 1 := by omega
        rcases h with h | h <;> rw [h] <;> exact ⟨_, rfl, by omega⟩
      repeat wtm_at "k"
      rename_i p2 H2 f2a f2b f2c r2 g2 s2
      have jl := J.len
      refine ⟨p, _, L, s, _, d, rfl, hL.ext r2.ext (zero _), by omega, fun l H3 ys1 nl e3 h3 p3 => ?_⟩
      have e30 : Ext [] H H3 := r2.ext.trans e3
      repeat wtm_at "k"
      refine ⟨m, _, M, s, _, d, 300, rfl, hM.ext e30 (zero _), J.g0, hd, by omega, xs, by decide, fun l2 H4 ys2 nl2 e4 h4 p4 => ?_⟩
      have ew : L.wanted s (cell % (ys.length + 2)) d = (⟨M.rows.drop M.gone.toNat, M.gone⟩ : LogS).wanted s (cell % (ys.length + 2)) d := by unfold LogS.wanted LogS.wantedAll; rw [J.rw']
      rw [ew] at p3
      repeat wtm_at "k"
      refine ⟨l, l2, _, _, _, rfl, e4.keep _ _ h3 (by simp), SqL.of h4, keepT e4.tups p3, p4, fun H5 e5 h5 => ?_⟩
      have e40 : Ext [] H H4 := e30.trans e4
      have nlH : H l = none := r2.ext.free nl (by simp)
      have hp4 := (pairTh K p m N).ext hp e40 (zero _)
      have apl : Apart ([p, pr] ++ [m, a, c]) [l] := fun b hb z => (pairTh K p m N).live hp b hb (by rw [List.mem_singleton.mp z]; exact nlH)
      obtain ⟨F1, F2, L', M', e1', ap', hL', hM', J', zN'⟩ := (pairTh K p m N).ext hp4 e5 apl
      refine k H5 _ ⟨F1, F2, L', M', e1', ap', hL', hM', J', by omega⟩ (Grow.refl _ _) ((e40.sub (by simp)).then e5 fun b hb => .inr (by rw [List.mem_singleton.mp hb]; exact nlH))
    · repeat wtm_at "k"
      exact ⟨p, m, N, F, pp, ts, _, _, rfl, hp, hpp, by omega, k⟩
end
end LW

set_option maxHeartbeats 4000000
namespace LW
open PySem PySem.Spec PyProof.Rows L2
local macro_rules | `(tactic| wtm_at "vk") => `(tactic| first
  | assumption
  | with_reducible exact rv_mine_rows
  | with_reducible exact rv_mine_gone
  | with_reducible exact rv_mine_told
  | exact valV_iv (by assumption)
  | fail)
local macro_rules | `(tactic| wtm_at "pk") => `(tactic| first
  | with_reducible exact putK_iv
  | with_reducible exact dropK_ik
  | with_reducible exact dropK_sk
  | with_reducible exact rp_mine_rows
  | with_reducible exact rp_mine_gone
  | with_reducible exact rp_mine_told
  | assumption
  | fail)
local macro_rules | `(tactic| wtm_at "rm") => `(tactic| first
  | with_reducible exact rm_mine
  | exact rfl
  | fail)
local macro_rules | `(tactic| wtm_at "rl") => `(tactic| first
  | with_reducible exact rl_mine
  | with_reducible assumption
  | fail)
local macro_rules | `(tactic| wtm_at "lk") => `(tactic| with_reducible first
  | exact lk_Log_rows
  | exact lk_Log_gone
  | fail)
local macro_rules | `(tactic| wtm_at "lm") => `(tactic| with_reducible first
  | exact lm_Log_note
  | exact lm_Log_last
  | exact lm_Log_first
  | exact lm_Log_wanted
  | exact lm_Log_forget
  | fail)
local macro_rules | `(tactic| wtm_at "pt") => `(tactic| with_reducible first
  | exact pt_Log_rows
  | exact pt_Log_gone
  | exact pi_Log_0
  | exact pi_Log_1
  | fail)
local macro_rules | `(tactic| wtm_at "lz") => `(tactic| with_reducible first
  | exact lz_Log
  | (simp only [List.length_cons, List.length_nil]; decide)
  | exact (by decide)
  | fail)
local macro_rules | `(tactic| wtm_at "hf") => `(tactic| first
  | assumption
  | (refine' hf_s ?hs ?hx; (case hs => assumption); (case hx => wtm_at "hf"))
  | (refine' hf_n ?hs ?hx ?ne; (case hs => assumption); (case hx => wtm_at "hf"); (case ne => wtm_at "ne"))
  | (refine' hf_e ?hs ?hx ?hy; (case hs => assumption); (case hx => wtm_at "hf"); (case hy => wtm_at "nin"))
  | fail)
local macro_rules | `(tactic| wtm_at "ne") => `(tactic| first
  | assumption
  | (apply Ne.symm; assumption)
  | (refine' ne_of_none ?hx ?hy; (case hy => assumption); (case hx => wtm_at "hf"))
  | (refine' (ne_of_none ?hx ?hy).symm; (case hy => assumption); (case hx => wtm_at "hf"))
  | (refine' ne_of ?hx ?hy ?hz; (case hx => assumption); (case hy => assumption); (case hz => intro z; cases z))
  | fail)
local macro_rules | `(tactic| wtm_at "nin") => `(tactic| first
  | assumption
  | exact notin_nil
  | (refine' notin_cons ?hx ?hy; (case hx => wtm_at "ne"); (case hy => wtm_at "nin"))
  | fail)
local macro_rules | `(tactic| wtm_at "mem") => `(tactic| first
  | assumption
  | exact List.mem_cons_self
  | (refine' List.mem_cons_of_mem _ ?hx; (case hx => wtm_at "mem"))
  | fail)
local macro_rules | `(tactic| wtm_at "wr") => `(tactic| first
  | exact Or.inr (by assumption)
  | exact Or.inl (by wtm_at "mem")
  | fail)
local macro_rules | `(tactic| wtm_at "lv") => `(tactic| first
  | assumption
  | exact Live.nil
  | (refine' Live.cons ?hx ?hy; (case hx => wtm_at "hf"); (case hy => wtm_at "lv"))
  | fail)
local macro_rules | `(tactic| wtm_at "run") => `(tactic| first
  | assumption
  | (refine' Run.same ?hx ?hy; (case hy => assumption); (case hx => wtm_at "run"))
  | fail)
local macro_rules | `(tactic| wtm_at "sq") => `(tactic| first
  | assumption
  | (refine' Run.seq ?hx ?hy; (case hx => assumption); (case hy => assumption))
  | (refine' SqL.of ?hx; (case hx => wtm_at "hf"))
  | (refine' Same.seq ?hx ?hy; (case hx => assumption); (case hy => wtm_at "sq"))
  | (refine' Ext.seqL ?hx ?hz ?hy; (case hx => assumption); (case hy => wtm_at "sq"); (case hz => wtm_at "nin"))
  | fail)
local macro_rules | `(tactic| wtm_at "st") => `(tactic| first
  | assumption
  | (refine' SqT.of ?hx; (case hx => wtm_at "hf"))
  | fail)
local macro_rules | `(tactic| wtm_at "ix") => `(tactic| first
  | assumption
  | exact rfl
  | fail)
local macro_rules | `(tactic| wtm_at "sz") => `(tactic| first
  | wtm_at "rl"
  | with_reducible assumption
  | (rw [ik_len]; wtm_at "sz")
  | (rw [sk_len]; wtm_at "sz")
  | exact small1000 (by assumption)
  | exact small1000 (by omega)
  | exact small1000 (by simp only [List.length_cons, List.length_nil, List.length_append, List.length_map]; omega)
  | fail)
local macro_rules | `(tactic| wtm_at "tx") => `(tactic| first
  | assumption
  | ((with_reducible refine' Tx.app ?hx ?hy); (case hx => wtm_at "tx"); (case hy => wtm_at "tx"))
  | ((with_reducible refine' Tx.cut ?hx); (case hx => wtm_at "tx"))
  | with_reducible exact Tx.nil
  | fail)
local macro_rules | `(tactic| wtm_at "k") => `(tactic| first
  | with_reducible refine k_seq ?_
  | with_reducible refine k_next ?_
  | with_reducible refine k_asg ?_
  | with_reducible refine k_ret ?_
  | with_reducible refine k_retN ?_
  | with_reducible refine k_drop ?_
  | with_reducible refine k_ifS ?_
  | ((with_reducible refine' k_var ?hx ?_); (case hx => exact rfl))
  | with_reducible refine k_c ?_
  | with_reducible refine k_negc ?_
  | with_reducible refine k_neg ?_
  | with_reducible refine l_neg ?_
  | with_reducible refine k_op ?_
  | with_reducible refine k_cb ?_
  | with_reducible refine k_nil ?_
  | with_reducible refine k_cons ?_
  | with_reducible refine k_test ?_
  | with_reducible refine k_B ?_
  | with_reducible refine k_not ?_
  | with_reducible refine k_and ?_
  | with_reducible refine k_or ?_
  | with_reducible refine k_notV ?_
  | with_reducible refine k_andV ?_
  | with_reducible refine k_orV ?_
  | with_reducible refine k_bl ?_
  | with_reducible refine k_add ?_
  | with_reducible refine k_sub ?_
  | ((with_reducible refine' k_mod ?hx ?_); (case hx => first | decide | omega))
  | ((with_reducible refine' k_div ?hx ?_); (case hx => exact ⟨by decide, by decide⟩))
  | ((with_reducible refine' k_mul ?hx ?_); (case hx => first | exact Or.inl ⟨by decide, by decide⟩ | exact Or.inr ⟨by decide, by decide⟩ | exact Or.inl ⟨by omega, by omega⟩))
  | with_reducible refine k_p6 ?_
  | with_reducible refine k_p9 ?_
  | with_reducible refine k_p12 ?_
  | with_reducible refine k_p13 ?_
  | with_reducible refine k_p18 ?_
  | with_reducible refine k_p30 ?_
  | with_reducible refine k_lt ?_
  | with_reducible refine k_le ?_
  | with_reducible refine k_gt ?_
  | with_reducible refine k_ge ?_
  | with_reducible refine k_eq ?_
  | with_reducible refine k_ne ?_
  | with_reducible refine k_seqS ?_
  | with_reducible refine k_neS ?_
  | with_reducible refine k_neB ?_
  | with_reducible refine k_isN ?_
  | with_reducible refine k_noN ?_
  | with_reducible refine k_fld ?_
  | ((with_reducible refine' l_fld ?hx ?hy ?_); (case hx => wtm_at "hf"); (case hy => wtm_at "lk"))
  | with_reducible refine k_fldS ?_
  | ((with_reducible refine' l_fldS ?hr ?hx ?hz ?hy ?hw ?_); (case hr => wtm_at "run"); (case hx => wtm_at "hf"); (case hy => wtm_at "pt"); (case hz => wtm_at "lz"); (case hw => wtm_at "wr"); intro _ _ _ _)
  | ((with_reducible refine' l_new ?hr ?_); (case hr => wtm_at "run"); intro _ _ _ _ _ _ _ _)
  | with_reducible refine k_append ?_
  | ((with_reducible refine' l_tyL ?hx ?_); (case hx => wtm_at "hf"))
  | ((with_reducible refine' l_ins ?hx ?hy ?_); (case hx => wtm_at "hf"); (case hy => wtm_at "lm"))
  | with_reducible refine k_methS ?_
  | with_reducible refine k_methG ?_
  | with_reducible refine k_makeG ?_
  | with_reducible refine k_meth0 ?_
  | with_reducible refine k_callS ?_
  | with_reducible refine k_callE ?_
  | with_reducible refine k_dget ?_
  | with_reducible refine k_din ?_
  | with_reducible refine k_dnotin ?_
  | with_reducible refine k_dput ?_
  | with_reducible refine k_dpop ?_
  | with_reducible refine k_dget2 ?_
  | with_reducible refine k_tup ?_
  | with_reducible refine k_lst ?_
  | with_reducible refine k_dnew ?_
  | ((with_reducible refine' l_tup ?hx ?_); (case hx => simp only [List.length_cons, List.length_nil]; decide))
  | ((with_reducible refine' l_lst ?hx ?_); (case hx => simp only [List.length_cons, List.length_nil]; decide))
  | ((with_reducible refine' l_isD ?hx ?_); (case hx => wtm_at "hf"))
  | ((with_reducible refine' l_dinI ?hx ?_); (case hx => wtm_at "hf"))
  | ((with_reducible refine' l_dinS ?hx ?_); (case hx => wtm_at "hf"))
  | ((with_reducible refine' l_dnotinI ?hx ?_); (case hx => wtm_at "hf"))
  | ((with_reducible refine' l_dnotinS ?hx ?_); (case hx => wtm_at "hf"))
  | ((with_reducible refine' l_dputI ?hr ?hx ?hz ?hy ?hw ?_); (case hr => wtm_at "run"); (case hx => wtm_at "hf"); (case hy => wtm_at "pk"); (case hz => wtm_at "sz"); (case hw => wtm_at "wr"); intro _ _ _ _)
  | ((with_reducible refine' l_dputS ?hr ?hx ?hz ?hy ?hw ?_); (case hr => wtm_at "run"); (case hx => wtm_at "hf"); (case hy => wtm_at "pk"); (case hz => wtm_at "sz"); (case hw => wtm_at "wr"); intro _ _ _ _)
  | ((with_reducible refine' l_dpopI ?hr ?hx ?hz ?hy ?hw ?_); (case hr => wtm_at "run"); (case hx => wtm_at "hf"); (case hy => wtm_at "pk"); (case hz => wtm_at "vk"); (case hw => wtm_at "wr"); intro _ _ _ _)
  | ((with_reducible refine' l_dpopS ?hr ?hx ?hz ?hy ?hw ?_); (case hr => wtm_at "run"); (case hx => wtm_at "hf"); (case hy => wtm_at "pk"); (case hz => wtm_at "vk"); (case hw => wtm_at "wr"); intro _ _ _ _)
  | ((with_reducible refine' l_dgetI ?hx ?hz ?_); (case hx => wtm_at "hf"); (case hz => wtm_at "vk"))
  | ((with_reducible refine' l_dgetS ?hx ?hz ?_); (case hx => wtm_at "hf"); (case hz => wtm_at "vk"))
  | ((with_reducible refine' l_dgetIF ?hx ?hz ?_); (case hx => wtm_at "hf"); (case hz => wtm_at "vk"))
  | ((with_reducible refine' l_dgetSF ?hx ?hz ?_); (case hx => wtm_at "hf"); (case hz => wtm_at "vk"))
  | ((with_reducible refine' k_disp ?hr ?_); (case hr => wtm_at "run"); intro _ _ _ _ _ _ _ _)
  | with_reducible refine k_pcons ?_
  | with_reducible refine k_pnil ?_
  | ((with_reducible refine' l_disp ?hr ?hx ?hu ?hv ?hy ?hw ?_); (case hr => wtm_at "run"); (case hx => wtm_at "hf"); (case hu => exact rfl); (case hv => simp only [List.length_map, List.length_cons, List.length_nil]; decide); (case hy => wtm_at "rm"); (case hw => wtm_at "wr"); intro _ _ _ _)
  | ((with_reducible refine' l_append ?hr ?hx ?hz ?hw ?_); (case hr => wtm_at "run"); (case hx => wtm_at "hf"); (case hz => wtm_at "sz"); (case hw => wtm_at "wr"); intro _ _ _ _)
  | ((with_reducible refine' l_isEt ?hx ?_); (case hx => first | exact isD (ExcK.kit (by assumption) _ (by wtm_at "mem") _ (by wtm_at "mem")) | exact isC (ExcK.kit (by assumption) _ (by wtm_at "mem") _ (by wtm_at "mem")) (by decide)))
  | ((with_reducible refine' l_isEV ?hx ?_); (case hx => exact ExcK.kitV (by assumption) _ (by wtm_at "mem")))
  | ((with_reducible refine' l_isiI ?hx ?_); (case hx => first | rfl | assumption))
  | ((with_reducible refine' l_isiB ?hx ?_); (case hx => first | rfl | assumption))
  | with_reducible refine l_isiSS ?_
  | ((with_reducible refine' l_isiS ?hx ?_); (case hx => first | rfl | assumption))
  | ((with_reducible refine' l_isiL ?hx ?_); (case hx => wtm_at "hf"))
  | ((with_reducible refine' l_isiT ?hx ?_); (case hx => wtm_at "hf"))
  | ((with_reducible refine' l_lenL ?hx ?_); (case hx => wtm_at "sq"))
  | ((with_reducible refine' l_lenT ?hx ?_); (case hx => wtm_at "st"))
  | ((with_reducible refine' l_ixL ?hx ?hy ?_); (case hx => wtm_at "sq"); (case hy => wtm_at "ix"))
  | ((with_reducible refine' l_ixT ?hx ?hy ?_); (case hx => wtm_at "st"); (case hy => wtm_at "ix"))
  | with_reducible refine k_m1 ?_
  | with_reducible refine l_strX ?_
  | with_reducible refine l_sw ?_
  | ((with_reducible refine' x_addS ?hx ?hy ?hz ?_); (case hx => wtm_at "tx"); (case hy => wtm_at "tx"); (case hz => decide))
  | ((with_reducible refine' x_slS ?hx ?hz ?_); (case hx => wtm_at "tx"); (case hz => decide))
  | ((with_reducible refine' x_lenX ?hx ?hz ?_); (case hx => wtm_at "tx"); (case hz => decide))
  | with_reducible refine l_max ?_
  | with_reducible refine l_min ?_
  | with_reducible refine l_abs ?_
  | with_reducible refine k_sl ?_
  | with_reducible refine k_part ?_
  | with_reducible refine l_part ?_
  | with_reducible refine k_nopart ?_
  | with_reducible refine k_yes ?_
  | ((with_reducible refine' l_slL ?hr ?hx ?_); (case hr => wtm_at "run"); (case hx => wtm_at "sq"); intro _ _ _ _ _ _ _ _)
  | with_reducible refine k_lcL ?_
  | with_reducible refine k_lcR ?_
  | with_reducible refine k_for ?_
  | with_reducible refine k_rng1 ?_
  | with_reducible refine k_rng2 ?_
  | with_reducible refine k_rng3 ?_
  | with_reducible refine k_makeS ?_
  | ((with_reducible refine' l_make ?hr ?_); (case hr => wtm_at "run"); intro _ _ _ _ _ _ _ _ _)
  | with_reducible refine k_ntt ?_
  | with_reducible refine k_ntf ?_
  | with_reducible refine k_clear ?_
  | ((with_reducible refine' l_clear ?hr ?hx ?hw ?_); (case hr => wtm_at "run"); (case hx => wtm_at "hf"); (case hw => wtm_at "wr"); intro _ _ _ _)
  | with_reducible refine k_ift ?_
  | with_reducible refine k_iff ?_
  | with_reducible refine g_name ?_
  | fail)
local macro_rules | `(tactic| wtm_at "k") => `(tactic| first
  | with_reducible refine k_wholeI ?_
  | ((with_reducible refine' k_whole ?hx ?_); (case hx => first | rfl | assumption))
  | ((with_reducible refine' k_cell ?hx ?hy ?_); (case hx => first | decide | omega | assumption); (case hy => wtm_at "sq"))
  | fail)
def logTh (K : PySem.W.Frag) (p : Addr) (L : LogS) : Thing where
  At := fun H F => LogAt K H p F L
  ext := fun h e a => h.ext e a
  live := fun h => h.live
def listsTh (lp mp pp : Addr) (ts : List Str) (P M : Bool → Addr) : Thing where
  At := fun H F => F = [lp, mp, pp] ∧ H lp = some (.lst [.ref (P false), .ref (P true)]) ∧ H mp = some (.lst [.ref (M false), .ref (M true)]) ∧ PoolAt H pp ts
  ext := fun ⟨e0, h1, h2, h3⟩ e a => by
    subst e0
    exact ⟨rfl, e.keep _ _ h1 (a _ (by simp)), e.keep _ _ h2 (a _ (by simp)), h3.ext e (a _ (by simp))⟩
  live := fun ⟨e0, h1, h2, h3⟩ => by
    subst e0
    exact Live.cons h1 (Live.cons h2 (Live.cons h3.at' Live.nil))
def Rk (K : PySem.W.Frag) (lp mp pp : Addr) (ts : List Str) (P M : Bool → Addr) (N : Nat) : Option Bool → Thing
  | none => listsTh lp mp pp ts P M
  | some b => pairTh K (P b) (M b) N
theorem pair_mono {K : PySem.W.Frag} {p m : Addr} {N N' : Nat} (h : N ≤ N') {H : Hp} {F : List Addr} : PairAt K p m N H F → PairAt K p m N' H F := fun ⟨F1, F2, L, M, e1, ap, hL, hM, J, z⟩ => ⟨F1, F2, L, M, e1, ap, hL, hM, J, Nat.le_trans z h⟩
/-- one pair changed -/
theorem wd_pair {K : PySem.W.Frag} {lp mp pp : Addr} {ts : List Str} {P M : Bool → Addr} {N N' : Nat} {H0 H H' : Hp} {F : Option Bool → List Addr} {b : Bool} {G : List Addr} (S : Wd H0 H F (Rk K lp mp pp ts P M N)) (h : PairAt K (P b) (M b) N' H' G) (g : Grow H (F (some b)) G) (e : Ext (F (some b)) H H') (z : N ≤ N') :
    Wd H0 H' (at_ F (some b) G) (Rk K lp mp pp ts P M N') := by
  refine (S.step (T := pairTh K (P b) (M b) N') e g h).mono fun i H1 F1 h1 => ?_
  by_cases c : i = some b
  · subst c; rw [at_same] at h1; exact h1
  · rw [at_ne c] at h1
    match i, h1 with
    | none, h1 => exact h1
    | some b', h1 => exact pair_mono z h1
theorem apart_mix {H : Hp} {F1 F2 A B : List Addr} (h : Apart F1 F2) (l1 : Live H F1) (l2 : Live H F2) (nA : ∀ c ∈ A, H c = none) (nB : ∀ c ∈ B, H c = none) (d : Apart A B) : Apart (F1 ++ A) (F2 ++ B) := fun c h1 h2 => by
  rcases List.mem_append.mp h1 with a | a <;> rcases List.mem_append.mp h2 with b | b
  · exact h c a b
  · exact l1 c a (nB c b)
  · exact l2 c b (nA c a)
  · exact d c a b
theorem all_wanted {L : LogS} {g : Int} (h : Num g L.rows) (g0 : 0 ≤ g) {m : Int} (z : L.rows.length ≤ m.toNat) : L.wanted Str.empty 0 m = L.rows := by
  unfold LogS.wanted LogS.wantedAll
  have e : L.rows.filter (fun r => decide (0 < r.n) && begins r.k Str.empty) = L.rows := by
    rw [List.filter_eq_self]
    intro r hr
    obtain ⟨i, hi, e⟩ := List.mem_iff_getElem.mp hr
    have := h i r (by rw [List.getElem?_eq_getElem hi, e])
    rw [begins_empty, decide_eq_true (by omega)]; rfl
  rw [e, List.take_of_length_le z]
section
variable {P : Program} {w : World} {K : PySem.W.Frag} {mg : Str → Option Value} {base : Heap}
def Tn (K : PySem.W.Frag) (H0 : Hp) (a lp mp pp : Addr) (ts : List Str) (PP MM : Bool → Addr) (N : Nat) (σ : St) (H : Hp) : Prop :=
  ∃ v4 v5 v6 v7 F, σ = [some (.ref a), some (.ref lp), some (.ref mp), some (.ref pp), v4, v5, v6, v7] ∧ Wd H0 H F (Rk K lp mp pp ts PP MM N)
def sp_law (K : PySem.W.Frag) : Sp := fun vs H Q _ => ∃ (a : Addr) (ns : List Int), vs = [.ref a] ∧ ns.length ≤ 63 ∧ SqL K H a (ns.map V.int) ∧ ∀ H', Q (.bl true) H'
theorem sc_law : FnScope ["_law_script", "_law_logs", "_law_mine", "_law_pool_here", "_law_k", "_law_which", "_law_rows", "_law_found"] ["_law_script"] (defScope s_law) := ⟨rfl, rfl, rfl, by decide +kernel, rfl, by decide +kernel, by decide +kernel⟩
theorem ok_law (T : FX K mg) : FnOk P w K mg base (L2N.CX P w) 5 (He.ga K "law") (fdAt K ("law", none)) ["_law_script"] (sp_law K) := by
  refine FunD.ok T.F_law sc_law (fun vs H Q E h => ?_) (fun cdv A outer s H vs Q E hr h => ?_)
  · (repeat (obtain ⟨_, h⟩ := h)); subst_vars; rfl
  · have hu := hu_of hr
    have hu64 := hr.units
    refine ⟨_,
      (pss_cons
        (ps_set (i := 1) sc_law.nd rfl (Or.inl rfl) (pe_lst (pa_cons (pe_makeS0 T.mk_Log (ok_Log_init T) (hr.mono (j := 2) (by decide)) rfl T.g_Log T.b_Log_init (fun σ => L2N.passAt tkd σ)) (pa_cons (pe_makeS0 T.mk_Log (ok_Log_init T) (hr.mono (j := 2) (by decide)) rfl T.g_Log T.b_Log_init (fun σ => L2N.passAt tkd σ)) pa_nil))))
      (pss_cons
        (ps_set (i := 2) sc_law.nd rfl (Or.inl rfl) (pe_lst (pa_cons (pe_disp (pps_cons pe_str (pe_lst pa_nil) (pps_cons pe_str pe_int (pps_cons pe_str (pe_lst pa_nil) pps_nil))) (by rfl) (by rfl) (fun z => by cases z) (by decide)) (pa_cons (pe_disp (pps_cons pe_str (pe_lst pa_nil) (pps_cons pe_str pe_int (pps_cons pe_str (pe_lst pa_nil) pps_nil))) (by rfl) (by rfl) (fun z => by cases z) (by decide)) pa_nil))))
      (pss_cons
        (ps_set (i := 3) sc_law.nd rfl (Or.inl rfl) (pe_callS (ok_l_pool T) (hr.mono (j := 3) (by decide)) rfl T.g_l_pool T.k_l_pool T.b_l_pool (fun σ => L2N.passAt tkd σ) (pa_cons (pe_callS (ok_l_cell_at T) (hr.mono (j := 1) (by decide)) rfl T.g_l_cell_at T.k_l_cell_at T.b_l_cell_at (fun σ => L2N.passAt tkd σ) (pa_cons (pv 0) (pa_cons pe_int pa_nil))) (pa_cons (pe_callS (ok_l_cell_at T) (hr.mono (j := 1) (by decide)) rfl T.g_l_cell_at T.k_l_cell_at T.b_l_cell_at (fun σ => L2N.passAt tkd σ) (pa_cons (pv 0) (pa_cons pe_int pa_nil))) pa_nil))))
      (pss_cons
        (ps_if (pt_cmpR oIeq (pe_op oImod (pe_callS (ok_l_cell_at T) (hr.mono (j := 1) (by decide)) rfl T.g_l_cell_at T.k_l_cell_at T.b_l_cell_at (fun σ => L2N.passAt tkd σ) (pa_cons (pv 0) (pa_cons pe_int pa_nil))) pe_int) pe_int (nomark _))
          (pss_one
            (ps_for pod rfl (pi_range1 rfl T.f_range (pa_cons pe_int pa_nil)) (pg_name (i := 4) sc_law.nd rfl (Or.inl rfl))
              (pss_one
                (ps_if (pt_not (pt_val (pe_callS (ok_l_noted T) (hr.mono (j := 3) (by decide)) rfl T.g_l_noted T.k_l_noted T.b_l_noted (fun σ => L2N.passAt tkd σ) (pa_cons (pe_ix ix_list (pv 1) (pe_op oImod (pv 4) pe_int) (fun _ _ => rfl)) (pa_cons (pe_ix ix_list (pv 2) (pe_op oImod (pv 4) pe_int) (fun _ _ => rfl)) (pa_cons (pv 3) (pa_cons (pe_op oIadd (pe_op oImul (pv 4) pe_int) pe_int) (pa_cons (pv 4) pa_nil))))))))
                  (pss_one
                    (ps_ret pe_bl))
                  pss_nil))))
          pss_nil)
      (pss_cons
        (ps_for pod rfl (pi_range3 rfl T.f_range (pa_cons pe_int (pa_cons (pe_op oIsub (pe_callB oLen (by rfl) T.f_len PySem.boot_len (pa_cons (pv 0) pa_nil)) pe_int) (pa_cons pe_int pa_nil)))) (pg_name (i := 4) sc_law.nd rfl (Or.inl rfl))
          (pss_cons
            (ps_set (i := 5) sc_law.nd rfl (Or.inl rfl) (pe_op oImod (pe_ix ix_list (pv 0) (pv 4) (fun _ _ => rfl)) pe_int))
          (pss_cons
            (ps_if (pt_not (pt_val (pe_callS (ok_l_step T) (hr.mono (j := 4) (by decide)) rfl T.g_l_step T.k_l_step T.b_l_step (fun σ => L2N.passAt tkd σ) (pa_cons (pe_ix ix_list (pv 1) (pv 5) (fun _ _ => rfl)) (pa_cons (pe_ix ix_list (pv 2) (pv 5) (fun _ _ => rfl)) (pa_cons (pv 3) (pa_cons (pe_ix ix_list (pv 0) (pv 4) (fun _ _ => rfl)) (pa_cons (pe_ix ix_list (pv 0) (pe_op oIadd (pv 4) pe_int) (fun _ _ => rfl)) pa_nil))))))))
              (pss_one
                (ps_ret pe_bl))
              pss_nil)
          (pss_cons
            (ps_if (PW.pt (pw_or (pt_not (pt_val (pe_callS (ok_l_ends T) (hr.mono (j := 2) (by decide)) rfl T.g_l_ends T.k_l_ends T.b_l_ends (fun σ => L2N.passAt tkd σ) (pa_cons (pe_ix ix_list (pv 1) pe_int (fun _ _ => rfl)) (pa_cons (pe_ix ix_list (pv 2) pe_int (fun _ _ => rfl)) pa_nil))))) (pw_or1 (pt_not (pt_val (pe_callS (ok_l_ends T) (hr.mono (j := 2) (by decide)) rfl T.g_l_ends T.k_l_ends T.b_l_ends (fun σ => L2N.passAt tkd σ) (pa_cons (pe_ix ix_list (pv 1) pe_int (fun _ _ => rfl)) (pa_cons (pe_ix ix_list (pv 2) pe_int (fun _ _ => rfl)) pa_nil))))))))
              (pss_one
                (ps_ret pe_bl))
              pss_nil)
          (pss_cons
            (ps_set (i := 6) sc_law.nd rfl (Or.inl rfl) (pe_dget hu (pe_ix ix_list (pv 2) (pv 5) (fun _ _ => rfl)) pe_str (fun _ _ => rfl)))
          (pss_cons
            (ps_set (i := 7) sc_law.nd rfl (Or.inl rfl) (pe_methS (pe_ix ix_list (pv 1) (pv 5) (fun _ _ => rfl)) T.cl_Log T.me_Log_wanted (ok_Log_wanted T) (hr.mono (j := 1) (by decide)) T.b_Log_wanted (fun σ => L2N.passAt tkd σ) (pa_cons pe_str (pa_cons pe_int (pa_cons (pe_op oIpow pe_int pe_int) pa_nil)))))
          (pss_cons
            (ps_if (PW.pt (pw_or (pt_cmpR (op_neD hu64) (pe_dget hu (pe_ix ix_list (pv 2) (pv 5) (fun _ _ => rfl)) pe_str (fun _ _ => rfl)) (pe_lst pa_nil) (nomark _)) (pw_or1 (pt_not (pt_val (pe_callS (ok_l_changes T) (hr.mono (j := 3) (by decide)) rfl T.g_l_changes T.k_l_changes T.b_l_changes (fun σ => L2N.passAt tkd σ) (pa_cons (pv 7) (pa_cons (pe_slice sl_list (pv 6) (po_some (pe_dget hu (pe_ix ix_list (pv 2) (pv 5) (fun _ _ => rfl)) pe_str (fun _ _ => rfl))) po_none) pa_nil))))))))
              (pss_one
                (ps_ret pe_bl))
              pss_nil)
          (pss_one
            (ps_dput hu (pe_ix ix_list (pv 2) (pv 5) (fun _ _ => rfl)) pe_str (pv 7) rfl)))))))))
      (pss_one
        (ps_ret (pe_callS (ok_l_ends T) (hr.mono (j := 2) (by decide)) rfl T.g_l_ends T.k_l_ends T.b_l_ends (fun σ => L2N.passAt tkd σ) (pa_cons (pe_ix ix_list (pv 1) pe_int (fun _ _ => rfl)) (pa_cons (pe_ix ix_list (pv 2) pe_int (fun _ _ => rfl)) pa_nil)))))))))), ?_⟩
    obtain ⟨a, ns, rfl, hl, hS, k⟩ := h
    have R0 : Run [] H H := Run.start Live.nil
    repeat wtm_at "k"
    rename_i p0 dx0 Ha fa1 fa2 fa3 ra ha sa
    have W0 : Wd (ι := Option Bool) H Ha (fun _ => []) (fun _ => noTh) := (Wd.start (H := H)).same ra.ext
    refine ⟨p0, dx0, rfl, ha, fun Hb F0 l0 g0 eb => ?_⟩
    have ra2 : Run [] H Hb := ra.call eb (fun c h => .inr (by rw [List.mem_singleton.mp h]; exact fa1)) fun _ h => by cases h
    refine ⟨rfl, ?_⟩
    have W1 : Wd H Hb _ _ := Wd.step (i := some false) (T := logTh K p0 ⟨[], 0⟩) (Wd.start (H := H)) ra2.ext (fun c hc => .inr ((g0 c hc).elim (fun z => by rw [List.mem_singleton.mp z]; exact fa1) fun z => ra.ext.free z (by simp))) l0
    have Rb : Run [] Hb Hb := Run.start Live.nil
    repeat wtm_at "k"
    rename_i p1 dx1 Hc fc1 fc2 fc3 rc hc sc
    refine ⟨p1, dx1, rfl, hc, fun Hd F1 l1 g1 ed => ?_⟩
    have rc2 : Run [] Hb Hd := rc.call ed (fun c h => .inr (by rw [List.mem_singleton.mp h]; exact fc1)) fun _ h => by cases h
    refine ⟨rfl, ?_⟩
    have W2 := W1.step (i := some true) (T := logTh K p1 ⟨[], 0⟩) (G := F1) rc2.ext (fun c hc => .inr ((g1 c hc).elim (fun z => by rw [List.mem_singleton.mp z]; exact fc1) fun z => rc.ext.free z (by simp))) l1
    have Rd : Run [] Hd Hd := Run.start Live.nil
    have Se : SqL K Hd a (ns.map V.int) := W2.sep.ex.seqL (by simp) hS
    repeat wtm_at "k"
    rename_i lp Hy f1lp f2lp f3lp ry hlp sy m0 Hf f1m0 f2m0 f3m0 rf hm0 sf a0 Hg f1a0 f2a0 f3a0 rg ha0 sg c0 Hh f1c0 f2c0 f3c0 rh hc0 sh Hi ri hm0' ni m1 Hj f1m1 f2m1 f3m1 rj hm1 sj a1 Hk f1a1 f2a1 f3a1 rk ha1 sk c1 Hl f1c1 f2c1 f3c1 rl hc1 sl Hn rn hm1' nn mp Hz f1mp f2mp f3mp rz hmp sz
    refine ⟨_, _, rfl, fun pp Hp ts npp epp hpp => ?_⟩
    have q0 : ∀ c ∈ [m0, a0, c0], Hd c = none := by
      intro c hc; simp only [List.mem_cons, List.not_mem_nil, or_false] at hc; rcases hc with rfl | rfl | rfl <;> assumption
    have q1 : ∀ c ∈ [m1, a1, c1], Hd c = none := by
      intro c hc; simp only [List.mem_cons, List.not_mem_nil, or_false] at hc; rcases hc with rfl | rfl | rfl <;> assumption
    have d01 : Apart [m0, a0, c0] [m1, a1, c1] := by
      intro c hc hd; simp only [List.mem_cons, List.not_mem_nil, or_false] at hc hd
      rcases hc with rfl | rfl | rfl <;> rcases hd with h | h | h <;> exact (show _ ≠ _ by wtm_at "ne") h
    have d20 : Apart [lp, mp, pp] [m0, a0, c0] := by
      intro c hc hd; simp only [List.mem_cons, List.not_mem_nil, or_false] at hc hd
      rcases hc with rfl | rfl | rfl <;> rcases hd with h | h | h <;> exact (show _ ≠ _ by wtm_at "ne") h
    have d21 : Apart [lp, mp, pp] [m1, a1, c1] := by
      intro c hc hd; simp only [List.mem_cons, List.not_mem_nil, or_false] at hc hd
      rcases hc with rfl | rfl | rfl <;> rcases hd with h | h | h <;> exact (show _ ≠ _ by wtm_at "ne") h
    have f1pp : Hd pp = none := rz.ext.free npp (by simp)
    have q2 : ∀ c ∈ [lp, mp, pp], Hd c = none := by
      intro c hc; simp only [List.mem_cons, List.not_mem_nil, or_false] at hc; rcases hc with rfl | rfl | rfl <;> assumption
    have ap01 : Apart (F0 ++ [m0, a0, c0]) (F1 ++ [m1, a1, c1]) := apart_mix (W2.sep.ap (some false) (some true) (by decide)) (W2.sep.lv (some false)) (W2.sep.lv (some true)) q0 q1 d01
    have ap20 : Apart [lp, mp, pp] (F0 ++ [m0, a0, c0]) := apart_mix (F1 := []) (fun _ z => by cases z) Live.nil (W2.sep.lv (some false)) q2 q0 d20
    have ap21 : Apart [lp, mp, pp] (F1 ++ [m1, a1, c1]) := apart_mix (F1 := []) (fun _ z => by cases z) Live.nil (W2.sep.lv (some true)) q2 q1 d21
    have pa0 : PairAt K p0 m0 0 Hp (F0 ++ [m0, a0, c0]) := ⟨F0, _, ⟨[], 0⟩, ⟨[], 0⟩, rfl, fun c h1 h2 => W2.sep.lv (some false) c h1 (q0 c h2), LogAt.ext (W2.r (some false)) (rz.ext.trans epp) (fun _ _ z => by cases z), ⟨a0, c0, [], rfl, by wtm_at "hf", by wtm_at "hf", by wtm_at "hf", .nil, by wtm_at "ne"⟩, Jl.new, Nat.le_refl _⟩
    have pa1 : PairAt K p1 m1 0 Hp (F1 ++ [m1, a1, c1]) := ⟨F1, _, ⟨[], 0⟩, ⟨[], 0⟩, rfl, fun c h1 h2 => W2.sep.lv (some true) c h1 (q1 c h2), LogAt.ext (W2.r (some true)) (rz.ext.trans epp) (fun _ _ z => by cases z), ⟨a1, c1, [], rfl, by wtm_at "hf", by wtm_at "hf", by wtm_at "hf", .nil, by wtm_at "ne"⟩, Jl.new, Nat.le_refl _⟩
    have S : Wd H Hp (fun | none => [lp, mp, pp] | some false => F0 ++ [m0, a0, c0] | some true => F1 ++ [m1, a1, c1]) (Rk K lp mp pp ts (fun b => cond b p1 p0) (fun b => cond b m1 m0) 0) := by
      have rr : ∀ i, (Rk K lp mp pp ts (fun b => cond b p1 p0) (fun b => cond b m1 m0) 0 i).At Hp ((fun | none => [lp, mp, pp] | some false => F0 ++ [m0, a0, c0] | some true => F1 ++ [m1, a1, c1] : Option Bool → List Addr) i) := by
        intro i
        match i with
        | none => exact ⟨rfl, by wtm_at "hf", by wtm_at "hf", hpp⟩
        | some false => exact pa0
        | some true => exact pa1
      refine ⟨⟨?_, fun i => Thing.live _ (rr i), (W2.sep.ex).trans (rz.ext.trans epp), ?_⟩, rr⟩
      · intro i j h
        match i, j with
        | none, some false => exact ap20
        | none, some true => exact ap21
        | some false, none => exact ap20.symm
        | some true, none => exact ap21.symm
        | some false, some true => exact ap01
        | some true, some false => exact ap01.symm
        | none, none => exact absurd rfl h
        | some false, some false => exact absurd rfl h
        | some true, some true => exact absurd rfl h
      · have fr : ∀ c, Hd c = none → H c = none := fun c z => W2.sep.ex.free z (by simp)
        intro i
        match i with
        | none => exact fun c h => fr c (q2 c h)
        | some false => exact fun c h => (List.mem_append.mp h).elim (W2.sep.nw (some false) c) fun z => fr c (q0 c z)
        | some true => exact fun c h => (List.mem_append.mp h).elim (W2.sep.nw (some true) c) fun z => fr c (q1 c z)
    have h0 : Tn K H a lp mp pp ts (fun b => cond b p1 p0) (fun b => cond b m1 m0) 0 [some (.ref a), some (.ref lp), some (.ref mp), some (.ref pp), none, none, none, none] Hp := ⟨_, _, _, _, _, rfl, S⟩
    have Sa : SqL K Hp a (ns.map V.int) := S.sep.ex.seqL (by simp) hS
    generalize (fun b => cond b p1 p0 : Bool → Addr) = PP at h0
    generalize (fun b => cond b m1 m0 : Bool → Addr) = MM at h0
    clear S pa0 pa1 ap01 ap20 ap21 d01 d20 d21 q0 q1 q2 W2 W1 W0 Rd Rb rc2 ra2
    repeat wtm_at "k"
    refine k_fork (fun σ' H' => Tn K H a lp mp pp ts PP MM 240 σ' H') (fun nx' ky => ?_) ?_
    · refine k_ifd (fun c => ?_) fun c => ?_
      · repeat wtm_at "k"
        refine l_rng1 (by omega) (l_rng (fun i => Tn K H a lp mp pp ts PP MM i) h0 (fun i σ' H1 hi q => ?_) fun σ' H1 q => ky _ _ q)
        obtain ⟨v4, v5, v6, v7, F, rfl, S⟩ := q
        have hS1 : SqL K H1 a (ns.map V.int) := S.sep.ex.seqL (by simp) hS
        have R1 : Run [] H1 H1 := Run.start Live.nil
        obtain ⟨_, hlp, hmp, hpp⟩ := S.r none
        generalize hb : decide ((0 + (i : Int)) % 2 = 1) = b
        have e1 : atI [V.ref (PP false), V.ref (PP true)] ((0 + (i : Int)) % 2) = some (V.ref (PP b)) := by rw [ix2 (f := fun b => V.ref (PP b)), hb]
        have e2 : atI [V.ref (MM false), V.ref (MM true)] ((0 + (i : Int)) % 2) = some (V.ref (MM b)) := by rw [ix2 (f := fun b => V.ref (MM b)), hb]
        repeat wtm_at "k"
        refine ⟨_, _, i, _, pp, ts, _, _, rfl, S.r (some b), hpp, by omega, fun H2 F2 h2 g2 x2 => ?_⟩
        repeat wtm_at "k"
        exact ⟨_, _, _, _, _, rfl, wd_pair S h2 g2 x2 (Nat.le_succ _)⟩
      · refine k_next (ky _ _ ?_)
        obtain ⟨v4, v5, v6, v7, F, e, S⟩ := h0
        exact ⟨v4, v5, v6, v7, F, e, S.mono fun i H F h => match i, h with | none, h => h | some b, h => pair_mono (by omega) h⟩
    · intro σ' H' q
      obtain ⟨v4, v5, v6, v7, F, rfl, S⟩ := id q
      have hS1 : SqL K H' a (ns.map V.int) := S.sep.ex.seqL (by simp) hS
      repeat wtm_at "k"
      have el : ((ns.map V.int).length : Int) = ns.length := by rw [List.length_map]
      refine l_rng3 ⟨by omega, by omega, by omega, by omega, by omega, by omega⟩ (l_rngC (fun i => Tn K H a lp mp pp ts PP MM (240 + i)) q (fun i σ' H1 hi q => ?_) fun σ' H1 q => ?_)
      · have hn := stepN_eq (i := 2) (j := ((ns.map V.int).length : Int) - 1) (c := 2) (by omega)
        have hn2 : (2 + (i : Int) * 2) + 1 < ns.length := by
          split at hn <;> omega
        have hi63 : i ≤ 63 := by omega
        clear S
        obtain ⟨v4, v5, v6, v7, F, rfl, S⟩ := q
        have hS1 : SqL K H1 a (ns.map V.int) := S.sep.ex.seqL (by simp) hS
        have R1 : Run [] H1 H1 := Run.start Live.nil
        obtain ⟨_, hlp, hmp, hpp⟩ := S.r none
        obtain ⟨kind, ek⟩ := ixI (xs := ns) (n := 2 + (i : Int) * 2) (by omega) (by omega)
        obtain ⟨cell, ec⟩ := ixI (xs := ns) (n := 2 + (i : Int) * 2 + 1) (by omega) (by omega)
        generalize hb : decide (kind % 2 = 1) = b
        have e1 : atI [V.ref (PP false), V.ref (PP true)] (kind % 2) = some (V.ref (PP b)) := by rw [ix2 (f := fun b => V.ref (PP b)), hb]
        have e2 : atI [V.ref (MM false), V.ref (MM true)] (kind % 2) = some (V.ref (MM b)) := by rw [ix2 (f := fun b => V.ref (MM b)), hb]
        repeat wtm_at "k"
        refine ⟨_, _, 240 + i, _, pp, ts, _, _, rfl, S.r (some b), hpp, by omega, fun H2 F2 h2 g2 x2 => ?_⟩
        have S2 := wd_pair S h2 g2 x2 (Nat.le_succ _)
        generalize at_ F (some b) F2 = Fn at S2
        obtain ⟨_, hlp2, hmp2, hpp2⟩ := S2.r none
        repeat wtm_at "k"
        refine ⟨_, _, 240 + i + 1, _, rfl, S2.r (some false), ?_⟩
        repeat wtm_at "k"
        refine ⟨_, _, 240 + i + 1, _, rfl, S2.r (some true), ?_⟩
        repeat wtm_at "k"
        obtain ⟨F1, F2', L, M, eF, ap, hL, ⟨a1, c1, ys, rfl, h1, h2, h3, h4, nac⟩, J, zN⟩ := id (S2.r (some b))
        obtain ⟨pr, dx, yl, eF1, npr, l1, l2, l3⟩ := id hL
        have R2 : Run [MM b] H2 H2 := Run.start (by wtm_at "lv")
        have eg : M.gone = ((M.gone.toNat : Nat) : Int) := by have := J.g0; omega
        have zero : ∀ G : List Addr, Apart G [] := fun G c _ z => by cases z
        have jl := J.len
        repeat wtm_at "k"
        refine ⟨_, F1, L, _, _, _, rfl, hL, by omega, fun l H3 zs nl e3 g3 p3 => ?_⟩
        have p3 : Paired (IsR H3) zs (L.wanted Str.empty 0 1000000) := p3
        rw [all_wanted J.num J.g0 (by rw [show (1000000 : Int).toNat = 1000000 from rfl]; omega)] at p3
        repeat wtm_at "k"
        refine l_neN (by wtm_at "sq") (by wtm_at "sq") ?_
        have nl4 : MM b ≠ l := ne_of_none h1 nl
        repeat wtm_at "k"
        rename_i D H4 u1 u2 u3 r4 g4 s4
        have eD : cutV ys (some M.gone) none = ys.drop M.gone.toNat := by have := cutV_from (xs := ys) (n := M.gone.toNat); rwa [← eg] at this
        rw [eD] at g4
        have pD : Paired (IsR H4) (ys.drop M.gone.toNat) L.rows := by rw [J.rw']; exact dropT _ (keepT r4.ext.tups h4)
        refine ⟨l, D, zs, _, L.rows, rfl, by wtm_at "hf", SqL.of g4, keepT (fun a xs h => by wtm_at "hf") p3, pD, fun H5 e5 h5 => ?_⟩
        have R5 : Run [MM b] H2 H5 := r4.call e5 (fun c hc => .inr (by rw [List.mem_singleton.mp hc]; exact nl)) fun c hc hd => absurd ((List.mem_singleton.mp hc).symm.trans (List.mem_singleton.mp hd)) nl4
        have g51 : H5 (MM b) = some (.dK (rc_mine (.ref a1) (.int M.gone) (.ref c1))) := by wtm_at "hf"
        repeat wtm_at "k"
        rename_i H6 r6 g6 n6
        have e6 : Ext [MM b] H2 H6 := r6.ext
        have mF : MM b ∈ Fn (some b) := by rw [eF]; simp
        have lF : l ∉ Fn (some b) := fun z => S2.sep.lv (some b) l z nl
        have ap6 : Apart F1 [MM b, a1, l] := by
          intro c hc hd
          simp only [List.mem_cons, List.not_mem_nil, or_false] at hd
          rcases hd with rfl | rfl | rfl
          · exact ap _ hc (by simp)
          · exact ap _ hc (by simp)
          · exact lF (by rw [eF]; exact List.mem_append.mpr (.inl hc))
        have n1 : l ≠ MM b := nl4.symm
        have n2 : a1 ≠ l := ne_of_none h2 nl
        have h6 : PairAt K (PP b) (MM b) (240 + i + 1) H6 (F1 ++ [MM b, a1, l]) := by
          refine ⟨F1, _, L, M, rfl, ap6, hL.ext e6 (fun c hc hd => ap c hc (by rw [List.mem_singleton.mp hd]; simp)), ⟨a1, l, ys, rfl, g6, ?_, ?_, keepT e6.tups h4, n2⟩, J, zN⟩
          · exact e6.keep _ _ h2 (by simp; wtm_at "ne")
          · rw [n6 _ n1]; exact h5
        exact ⟨_, _, _, _, _, rfl, wd_pair S2 h6 (fun c hc => (List.mem_append.mp hc).elim (fun z => .inl (by rw [eF]; exact List.mem_append.mpr (.inl z))) fun z => by
          simp only [List.mem_cons, List.not_mem_nil, or_false] at z
          rcases z with rfl | rfl | rfl
          · exact .inl mF
          · exact .inl (by rw [eF]; simp)
          · exact .inr nl) (e6.sub fun c hc => by rw [List.mem_singleton.mp hc]; exact mF) (by omega)⟩
      · obtain ⟨v4, v5, v6, v7, F, rfl, S⟩ := q
        obtain ⟨_, hlp, hmp, hpp⟩ := S.r none
        repeat wtm_at "k"
        exact ⟨_, _, _, _, rfl, S.r (some false), k _⟩
end
end LW

set_option maxHeartbeats 0
namespace LW
open PySem PySem.Spec PyProof.Rows L2
def d0 : He.DefD := ⟨("Log", some "__init__"), "__init__", "Log.__init__", defArgs s_Log_init, defBody s_Log_init, defScope s_Log_init, [], []⟩
def d1 : He.DefD := ⟨("Log", some "note"), "note", "Log.note", defArgs s_Log_note, defBody s_Log_note, defScope s_Log_note, [], []⟩
def d2 : He.DefD := ⟨("Log", some "last"), "last", "Log.last", defArgs s_Log_last, defBody s_Log_last, defScope s_Log_last, [], []⟩
def d3 : He.DefD := ⟨("Log", some "first"), "first", "Log.first", defArgs s_Log_first, defBody s_Log_first, defScope s_Log_first, [], []⟩
def d4 : He.DefD := ⟨("Log", some "wanted"), "wanted", "Log.wanted", defArgs s_Log_wanted, defBody s_Log_wanted, defScope s_Log_wanted, [], []⟩
def d5 : He.DefD := ⟨("Log", some "forget"), "forget", "Log.forget", defArgs s_Log_forget, defBody s_Log_forget, defScope s_Log_forget, [], []⟩
def d6 : He.DefD := ⟨("_law_whole", none), "_law_whole", "_law_whole", defArgs s_l_whole, defBody s_l_whole, defScope s_l_whole, [], []⟩
def d7 : He.DefD := ⟨("_law_cell_at", none), "_law_cell_at", "_law_cell_at", defArgs s_l_cell_at, defBody s_l_cell_at, defScope s_l_cell_at, [], []⟩
def d8 : He.DefD := ⟨("_law_sign", none), "_law_sign", "_law_sign", defArgs s_l_sign, defBody s_l_sign, defScope s_l_sign, [], []⟩
def d9 : He.DefD := ⟨("_law_text", none), "_law_text", "_law_text", defArgs s_l_text, defBody s_l_text, defScope s_l_text, [], []⟩
def d10 : He.DefD := ⟨("_law_pool", none), "_law_pool", "_law_pool", defArgs s_l_pool, defBody s_l_pool, defScope s_l_pool, [], []⟩
def d11 : He.DefD := ⟨("_law_prefix", none), "_law_prefix", "_law_prefix", defArgs s_l_prefix, defBody s_l_prefix, defScope s_l_prefix, [], []⟩
def d12 : He.DefD := ⟨("_law_change", none), "_law_change", "_law_change", defArgs s_l_change, defBody s_l_change, defScope s_l_change, [], []⟩
def d13 : He.DefD := ⟨("_law_changes", none), "_law_changes", "_law_changes", defArgs s_l_changes, defBody s_l_changes, defScope s_l_changes, [], []⟩
def d14 : He.DefD := ⟨("_law_pairs", none), "_law_pairs", "_law_pairs", defArgs s_l_pairs, defBody s_l_pairs, defScope s_l_pairs, [], []⟩
def d15 : He.DefD := ⟨("_law_wanted", none), "_law_wanted", "_law_wanted", defArgs s_l_wanted, defBody s_l_wanted, defScope s_l_wanted, [], []⟩
def d16 : He.DefD := ⟨("_law_noted", none), "_law_noted", "_law_noted", defArgs s_l_noted, defBody s_l_noted, defScope s_l_noted, [], []⟩
def d17 : He.DefD := ⟨("_law_forgot", none), "_law_forgot", "_law_forgot", defArgs s_l_forgot, defBody s_l_forgot, defScope s_l_forgot, [], []⟩
def d18 : He.DefD := ⟨("_law_ends", none), "_law_ends", "_law_ends", defArgs s_l_ends, defBody s_l_ends, defScope s_l_ends, [], []⟩
def d19 : He.DefD := ⟨("_law_step", none), "_law_step", "_law_step", defArgs s_l_step, defBody s_l_step, defScope s_l_step, [], []⟩
def d20 : He.DefD := ⟨("law", none), "law", "law", defArgs s_law, defBody s_law, defScope s_law, [], []⟩
def fn : List He.DefD := [d0, d1, d2, d3, d4, d5, d6, d7, d8, d9, d10, d11, d12, d13, d14, d15, d16, d17, d18, d19, d20]
def fa : List He.Fa := [.glo "Log", .glo "_law_whole", .glo "_law_cell_at", .glo "_law_sign", .glo "_law_text", .glo "_law_pool", .glo "_law_prefix", .glo "_law_change", .glo "_law_changes", .glo "_law_pairs", .glo "_law_wanted", .glo "_law_noted", .glo "_law_forgot", .glo "_law_ends", .glo "_law_step", .glo "law", .free "isinstance", .free "len", .free "sorted", .free "range", .free "int", .free "bool", .free "str", .free "list", .free "tuple", .free "ValueError", .free "min", .free "max", .free "abs", .free "zip", .cls "Log", .mkr "Log", .noat "Log" "rows", .noat "Log" "gone", .meth "Log" "note", .meth "Log" "last", .meth "Log" "first", .meth "Log" "wanted", .meth "Log" "forget"]
def exq (K : PySem.W.Frag) : Bool := exkB ([] : List Str) K
abbrev RW : PySem.W.OpenRow := PySem.W.OpenLaw.row PySem.Challenge.rw_leasewatch_k02_changes_by_numbers
abbrev hk : PySem.W.Hook := He.hookX 6 fa fn [] [] exq
def ob (s : PySem.W.SharedT) : He.AlX := He.obsX 6 fa fn [] [] exq (HandSHeadRun.getT s)
theorem ob_eq (s : PySem.W.SharedT) : ob s = hk.obs s.abs := He.obsX_eq (HandSHeadRun.getT_eq s)
def loose : List Str := (["Log", "_law_cell_at", "_law_change", "_law_changes", "_law_ends", "_law_forgot", "_law_noted", "_law_pairs", "_law_pool", "_law_prefix", "_law_sign", "_law_step", "_law_text", "_law_wanted", "_law_whole"] : List Str)
theorem run (w : World) : HandSHeadRun.RunEq RW (PySem.W.view RW.prog [17]) hk ob 3000 loose w := by
  intro os
  kernel_rfl
theorem fx_of {w : World} {K : PySem.W.Frag} {h : Heap} {mg : Str → Option Value} (X : K.In h) (G : h.Ns mainGlobals mg) (c0 : He.SaysX fa fn [] [] exq w h K) : FX K mg := by
  have c := c0.t.d
  exact ⟨
    He.glo_ok X G ((c.fact 0 (f := .glo "Log") rfl)),
    He.glo_ok X G ((c.fact 1 (f := .glo "_law_whole") rfl)),
    He.glo_ok X G ((c.fact 2 (f := .glo "_law_cell_at") rfl)),
    He.glo_ok X G ((c.fact 3 (f := .glo "_law_sign") rfl)),
    He.glo_ok X G ((c.fact 4 (f := .glo "_law_text") rfl)),
    He.glo_ok X G ((c.fact 5 (f := .glo "_law_pool") rfl)),
    He.glo_ok X G ((c.fact 6 (f := .glo "_law_prefix") rfl)),
    He.glo_ok X G ((c.fact 7 (f := .glo "_law_change") rfl)),
    He.glo_ok X G ((c.fact 8 (f := .glo "_law_changes") rfl)),
    He.glo_ok X G ((c.fact 9 (f := .glo "_law_pairs") rfl)),
    He.glo_ok X G ((c.fact 10 (f := .glo "_law_wanted") rfl)),
    He.glo_ok X G ((c.fact 11 (f := .glo "_law_noted") rfl)),
    He.glo_ok X G ((c.fact 12 (f := .glo "_law_forgot") rfl)),
    He.glo_ok X G ((c.fact 13 (f := .glo "_law_ends") rfl)),
    He.glo_ok X G ((c.fact 14 (f := .glo "_law_step") rfl)),
    He.glo_ok X G ((c.fact 15 (f := .glo "law") rfl)),
    He.free_ok X G ((c.fact 16 (f := .free "isinstance") rfl)),
    He.free_ok X G ((c.fact 17 (f := .free "len") rfl)),
    He.free_ok X G ((c.fact 18 (f := .free "sorted") rfl)),
    He.free_ok X G ((c.fact 19 (f := .free "range") rfl)),
    He.free_ok X G ((c.fact 20 (f := .free "int") rfl)),
    He.free_ok X G ((c.fact 21 (f := .free "bool") rfl)),
    He.free_ok X G ((c.fact 22 (f := .free "str") rfl)),
    He.free_ok X G ((c.fact 23 (f := .free "list") rfl)),
    He.free_ok X G ((c.fact 24 (f := .free "tuple") rfl)),
    He.free_ok X G ((c.fact 25 (f := .free "ValueError") rfl)),
    He.free_ok X G ((c.fact 26 (f := .free "min") rfl)),
    He.free_ok X G ((c.fact 27 (f := .free "max") rfl)),
    He.free_ok X G ((c.fact 28 (f := .free "abs") rfl)),
    He.free_ok X G ((c.fact 29 (f := .free "zip") rfl)),
    He.cls_ok ((c.fact 30 (f := .cls "Log") rfl)),
    He.mkr_ok ((c.fact 31 (f := .mkr "Log") rfl)),
    He.noat_ok ((c.fact 32 (f := .noat "Log" "rows") rfl)),
    He.noat_ok ((c.fact 33 (f := .noat "Log" "gone") rfl)),
    He.meth_ok ((c.fact 34 (f := .meth "Log" "note") rfl)),
    He.meth_ok ((c.fact 35 (f := .meth "Log" "last") rfl)),
    He.meth_ok ((c.fact 36 (f := .meth "Log" "first") rfl)),
    He.meth_ok ((c.fact 37 (f := .meth "Log" "wanted") rfl)),
    He.meth_ok ((c.fact 38 (f := .meth "Log" "forget") rfl)),
    fdAt_of (c.def_ 0 (d := d0) rfl),
    fdAt_of (c.def_ 1 (d := d1) rfl),
    fdAt_of (c.def_ 2 (d := d2) rfl),
    fdAt_of (c.def_ 3 (d := d3) rfl),
    fdAt_of (c.def_ 4 (d := d4) rfl),
    fdAt_of (c.def_ 5 (d := d5) rfl),
    fdAt_of (c.def_ 6 (d := d6) rfl),
    fdAt_of (c.def_ 7 (d := d7) rfl),
    fdAt_of (c.def_ 8 (d := d8) rfl),
    fdAt_of (c.def_ 9 (d := d9) rfl),
    fdAt_of (c.def_ 10 (d := d10) rfl),
    fdAt_of (c.def_ 11 (d := d11) rfl),
    fdAt_of (c.def_ 12 (d := d12) rfl),
    fdAt_of (c.def_ 13 (d := d13) rfl),
    fdAt_of (c.def_ 14 (d := d14) rfl),
    fdAt_of (c.def_ 15 (d := d15) rfl),
    fdAt_of (c.def_ 16 (d := d16) rfl),
    fdAt_of (c.def_ 17 (d := d17) rfl),
    fdAt_of (c.def_ 18 (d := d18) rfl),
    fdAt_of (c.def_ 19 (d := d19) rfl),
    fdAt_of (c.def_ 20 (d := d20) rfl)⟩
end LW
open PySem PySem.W PySem.Calls PyProof.Rows
theorem PySem.Challenge.cw_leasewatch_k02_changes_by_numbers_holds : PySem.Challenge.rw_leasewatch_k02_changes_by_numbers.Holds := by
  w_on; o_law
  refine HandSHeadRun.head_any (r := OpenLaw.row PySem.Challenge.rw_leasewatch_k02_changes_by_numbers) (q := view (OpenLaw.row PySem.Challenge.rw_leasewatch_k02_changes_by_numbers).prog [17]) (H := LW.hk) (ob := LW.ob) (M := 3000) (loose := LW.loose) (d := HandSHeadRun.topDef (OpenLaw.row PySem.Challenge.rw_leasewatch_k02_changes_by_numbers).prog 17) (kwd := []) LW.ob_eq
    (by kernel_rfl) (fun s => by kernel_rfl) LW.run (by kernel_rfl) (by kernel_rfl) (by kernel_rfl) (by rfl) (by first | assumption | decide +kernel) (by decide +kernel) ⟨rfl, rfl, rfl, rfl, rfl, by decide +kernel⟩ ?hw ?hc
  case hw => w_witness2
  case hc =>
    refine L2.walk_ofE (l := PySem.Challenge.rw_leasewatch_k02_changes_by_numbers) (n := 63) (k := 5) (x := "_law_script") (CX := L2.CX0) rfl (by decide) (by kernel_rfl) ⟨rfl, by decide, by decide⟩ ?F (fun _ _ _ _ z => z)
    intro w mg fa h Y G hmg0
    obtain ⟨K, KX, c⟩ := Y
    have hmg : mg ("law" : PySem.Str) = some (.ref fa) := by
      have e : (HandSHeadRun.topDef (OpenLaw.row PySem.Challenge.rw_leasewatch_k02_changes_by_numbers).prog 17).name = ("law" : PySem.Str) := by kernel_rfl
      rw [← e]
      exact hmg0
    have T := LW.fx_of KX G c
    have e := hmg.symm.trans T.g_law
    cases e
    have b := L2.FunD.bindsA (ps := ["_law_script"]) T.F_law fun _ _ _ _ _ _ us hl => match us, hl with | [_], _ => rfl
    exact ⟨K, LW.fdAt K ("law", none), LW.sp_law K, KX, fun s v => b s [v] rfl, fun H a ns hl _ hS => ⟨a, ns, rfl, hl, hS, fun _ => rfl⟩, fun base _ _ => LW.fn_out (LW.ok_law T) fun _ _ _ _ z => z⟩
