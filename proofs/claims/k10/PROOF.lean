import PyProof.Rows.All
import Wide.All
import OpenK.AllK
import Wide.FinOn
import KE.KStateDown
import HandS.ForMost
import HandS.ForExc
import HandS.More
import HandS.Defaults
import HandS.MakeKw
import HandS.ExcIs
import HandS.ExcCtx
import HandS.HotCalls
import HandS.IsInst
import HandS.SortRule
import HandS.SortInts
import HandS.Deep
import HandS.HeadHook4
import HandS.Style
import PyProof.Rows.SortShellAny
import KE.DataMinMax
import HandS.WordsDict
import PySem.Challenge.RW_leasewatch_k10_whole_ears_know_what_stan
import HandS.Head0
import HandS.Head1
import HandS.Head2
import HandS.HeadEnd
import HandS.HeadHook1
import HandS.HeadHook2
import HandS.HeadHook3
set_option Elab.async false
set_option linter.all false
set_option maxRecDepth 100000
set_option maxHeartbeats 4000000
namespace LW
open PySem PySem.Spec PyProof.Rows L2
abbrev St := L2.St

/-! ### where a def stands, its record -/
abbrev Nm := Str × Option Str
def fd0 : FuncData := PySem.W.fnOf Str.empty Str.empty { posonlyargs := [], args := [], vararg := none, kwonlyargs := [], kw_defaults := [], kwarg := none, defaults := [] } [] { kind := .function, names := [], isGenerator := false, isCoroutine := false } .none .none .none .none none .none .none
def fdAt (K : PySem.W.Frag) (p : Nm) : FuncData := match K.lookup (He.fAd K p) with
  | some ⟨_, _, .func fd, _⟩ => fd
  | _ => fd0
theorem fdAt_of {K : PySem.W.Frag} {p : Nm} {x qual : Str} {params : Arguments} {body : List Stmt} {scope : Scope} {dvs : List V} {kws : List (Str × V)}
    (h : ∃ fd, FunD K x qual params body scope dvs kws (He.fAd K p) fd) : FunD K x qual params body scope dvs kws (He.fAd K p) (fdAt K p) := by
  obtain ⟨fd, F⟩ := h
  obtain ⟨oc, od, dV, kV, doc, pm, an, cdv, ct, osl, e, lk, hcd, hD, hK⟩ := id F.ex
  have q : fdAt K p = fd := by
    unfold fdAt
    rw [lk]
  rw [q]
  exact F

/-! ### calls where what is raised is wished for at the caller's slots -/
section
variable {X : Cx} {CX : CXT} {k n : Nat} {f C : Addr} {fd : FuncData} {ps ks : List Str} {sp : Sp} {E : St → XK} {x m : Str} {p pos apos : Pos} {e o : Expr} {es : List Expr} {kws : List Keyword} {ta : TE} {t tk : TA}
  {g : List Value → List Value → List Value} {gV : List V → List V → List V}
theorem run_g {pins : List (Addr × Obj)} {σ : St} {H : Hp} {s : Shared} {Q : VK} {us ws : List Value} {vs zs : List V} {E : XK} (F : FnOk X.prog X.w X.K X.mg X.base CX k f fd ps sp) (hr : Room k X.A)
    (hb : KBn X.K fd ps n ks g gV) (hx : PassesAt CX X σ E) (I : Inv X pins σ H s) (r : Vals vs us) (rz : Vals zs ws) (l1 : vs.length = n) (l2 : zs.length = ks.length) (h : sp (gV vs zs) H Q E) :
    wpAny (model X.prog X.w) X.A (call (.ref f) us (ks.zip ws)) (EP X pins σ Q) X.xe s := by
  have r2 := hb.rel r rz
  have b := hb.to s us ws I.kIn (r.length.symm.trans l1) (rz.length.symm.trans l2)
  refine wpAny_call (codeAny_mono (F.run X.A X.stack s H _ (g us ws) (gV vs zs) Q E hr I.env0 b r2 h) fun res s' hq => ?_)
  match res, hq with
  | .error e, hq => exact hx pins H s e s' I hq
  | .ok (.ret u), hq => exact I.after hq
/-- o.m(e, .., k = v, ..): n values with the object itself -/
def tMethG (C : Addr) (m : Str) (n j : Nat) (sp : Sp) (gV : List V → List V → List V) (E : St → XK) (ta : TE) (t tk : TA) : TE := fun σ H Q => ta σ H fun x H1 =>
  ∃ a dx fs, x = .ref a ∧ H1 a = some (.ins C dx fs) ∧ fs.lookup m = none ∧ t σ H1 fun vs H2 => tk σ H2 fun zs H3 => (x :: vs).length = n ∧ zs.length = j ∧ sp (gV (x :: vs) zs) H3 Q (E σ)
theorem pe_methG {pl : Sem Bool} (he : PE X o ta) (c : Cls X.K C) (hm : Meth X.K C m f) (F : FnOk X.prog X.w X.K X.mg X.base CX k f fd ps sp) (hr : Room k X.A) (hb : KBn X.K fd ps n ks g gV)
    (hx : ∀ σ, PassesAt CX X σ (E σ)) (ha : PA X (e :: es) t) (hkw : PK X kws tk)
    (hall : (backToKw pos (keywordEach kws X.env)).all (·.1.isSome) = true := by rfl) (hks : (backToKw pos (keywordEach kws X.env)).filterMap (·.1) = ks := by rfl)
    (hst : starEach (e :: es) X.env = (false, eval e X.env) :: starEach es X.env := by rfl)
    (hpl : ((backTo pos (starEach (e :: es) X.env)).any (·.1) || (backToKw pos (keywordEach kws X.env)).any (·.1.isNone)) = false := by rfl)
    (ht : eval (.Call (.Attribute o m apos) (e :: es) kws pos) X.env = (do
      let ov ← eval o X.env
      standAt apos.atName
      let (f, first) ← holding [ov] (getMethod ov m pl)
      callWith pos f first (backTo pos (starEach (e :: es) X.env)) (backToKw pos (keywordEach kws X.env))) := by rfl) :
    PE X (.Call (.Attribute o m apos) (e :: es) kws pos) (tMethG C m n ks.length sp gV E ta t tk) := by
  refine ⟨fun pins s σ H Q I h => ?_⟩
  refine PySem.W.methodCall_KW (pl := pl) (thn (he.run pins s σ H _ I h) fun u s1 hh => ?_) ht
  obtain ⟨y, H1, I1, rx, a, dx, fs, ex, ea, l, q⟩ := hh
  subst ex
  obtain rfl : u = Value.ref a := rx
  refine getmeth_ok I1 ea c hm l ?_
  refine PySem.W.callWith_KW (first := [.ref a]) (h₀ := X.base) I.ok.mod.kin hm.kp hall (thn (ha.run pos pins s1 σ H1 _ I1 q) fun us s2 h2 => ?_) hpl hst
  obtain ⟨vs, H2, I2, r, q2⟩ := h2
  refine thn (hkw.run pos pins s2 σ H2 _ I2 q2) fun ws s3 h3 => ?_
  obtain ⟨zs, H3, I3, rz, l1, l2, q3⟩ := h3
  refine ⟨I3.kIn, ?_⟩
  rw [hks]
  exact run_g (us := .ref a :: us) (vs := .ref a :: vs) F hr hb (hx σ) I3 (.cons rfl r) rz l1 l2 q3
/-- o.m(): no value but the object -/
def tMeth0 (C : Addr) (m : Str) (sp : Sp) (E : St → XK) (ta : TE) : TE := fun σ H Q => ta σ H fun x H1 =>
  ∃ a dx fs, x = .ref a ∧ H1 a = some (.ins C dx fs) ∧ fs.lookup m = none ∧ sp [x] H1 Q (E σ)
theorem pe_meth0S {pl : Sem Bool} (he : PE X o ta) (c : Cls X.K C) (hm : Meth X.K C m f) (F : FnOk X.prog X.w X.K X.mg X.base CX k f fd ps sp) (hr : Room k X.A) (hb : Binds X.K fd ps [])
    (hx : ∀ σ, PassesAt CX X σ (E σ))
    (ht : eval (.Call (.Attribute o m apos) [] [] pos) X.env = (do
      let ov ← eval o X.env
      standAt apos.atName
      let (f, first) ← holding [ov] (getMethod ov m pl)
      callWith pos f first (backTo pos (starEach [] X.env)) (backToKw pos (keywordEach [] X.env))) := by rfl) :
    PE X (.Call (.Attribute o m apos) [] [] pos) (tMeth0 C m sp E ta) := by
  refine ⟨fun pins s σ H Q I h => ?_⟩
  refine PySem.W.methodCall_KW (pl := pl) (thn (he.run pins s σ H _ I h) fun u s1 hh => ?_) ht
  obtain ⟨y, H1, I1, rx, a, dx, fs, ex, ea, l, q⟩ := hh
  subst ex
  obtain rfl : u = Value.ref a := rx
  refine getmeth_ok I1 ea c hm l ?_
  refine PySem.W.callWith_K0 (first := [.ref a]) I1.kIn hm.kp ?_
  exact run_fnS (us := [.ref a]) (vs := [.ref a]) F hr hb (hx σ) I1 (.cons rfl .nil) q
/-- o.m(e, ..): every parameter is given -/
def tMethS (C : Addr) (m : Str) (sp : Sp) (E : St → XK) (ta : TE) (t : TA) : TE := fun σ H Q => ta σ H fun x H1 =>
  ∃ a dx fs, x = .ref a ∧ H1 a = some (.ins C dx fs) ∧ fs.lookup m = none ∧ t σ H1 fun vs H2 => sp (x :: vs) H2 Q (E σ)
theorem pe_methS {pl : Sem Bool} (he : PE X o ta) (c : Cls X.K C) (hm : Meth X.K C m f) (F : FnOk X.prog X.w X.K X.mg X.base CX k f fd ps sp) (hr : Room k X.A) (hb : Binds X.K fd ps [])
    (hx : ∀ σ, PassesAt CX X σ (E σ)) (ha : PA X (e :: es) t)
    (hst : starEach (e :: es) X.env = (false, eval e X.env) :: starEach es X.env := by rfl) (hpl : (backTo pos (starEach es X.env)).any (·.1) = false := by rfl)
    (ht : eval (.Call (.Attribute o m apos) (e :: es) [] pos) X.env = (do
      let ov ← eval o X.env
      standAt apos.atName
      let (f, first) ← holding [ov] (getMethod ov m pl)
      callWith pos f first (backTo pos (starEach (e :: es) X.env)) (backToKw pos (keywordEach [] X.env))) := by rfl) :
    PE X (.Call (.Attribute o m apos) (e :: es) [] pos) (tMethS C m sp E ta t) := by
  refine ⟨fun pins s σ H Q I h => ?_⟩
  refine PySem.W.methodCall_KW (pl := pl) (thn (he.run pins s σ H _ I h) fun u s1 hh => ?_) ht
  obtain ⟨y, H1, I1, rx, a, dx, fs, ex, ea, l, q⟩ := hh
  subst ex
  obtain rfl : u = Value.ref a := rx
  refine getmeth_ok I1 ea c hm l ?_
  refine PySem.W.callWith_K (first := [.ref a]) (h₀ := X.base) I.ok.mod.kin hm.kp (thn (ha.run pos pins s1 σ H1 _ I1 q) fun us s2 h2 => ?_) hst hpl
  obtain ⟨vs, H2, I2, r, q2⟩ := h2
  exact ⟨I2.kIn, run_fnS (us := .ref a :: us) (vs := .ref a :: vs) F hr hb (hx σ) I2 (.cons rfl r) q2⟩
/-- f(): no parameter -/
theorem pe_callS0 (F : FnOk X.prog X.w X.K X.mg X.base CX k f fd ps sp) (hr : Room k X.A) (hg : Gl X x) (hm : X.mg x = some (.ref f)) (hk : PySem.W.keepIn X.K (.ref f) = true) (hb : Binds X.K fd ps [])
    (hx : ∀ σ, PassesAt CX X σ (E σ)) (hdb : (x == ("__debug__" : Str)) = false := by decide) : PE X (.Call (.Name x p) [] [] pos) (tCallS sp E tNil) := by
  refine ⟨fun pins s σ H Q I h => ?_⟩
  refine wpAny_Call_Name_kw (ld_glob I hg hm ?_ hdb)
  exact PySem.W.callWith_K0 I.kIn hk (run_fnS (us := []) F hr hb (hx σ) I .nil h)

/-! ### constructors, what is raised wished for at the caller's slots -/
def LMake (C : Addr) (as : Addr → List V) (sp : Sp) (H : Hp) (Q : VK) (E : XK) : Prop := ∀ x dx, H x = none → H dx = none → dx ≠ x → sp (as x) (upd (upd H dx (.own x)) x (.ins C dx [])) (fun v H2 => v = .non ∧ Q (.ref x) H2) E
theorem run_makeG {pins : List (Addr × Obj)} {σ : St} {H : Hp} {s : Shared} {Q : VK} {us ws : List Value} {vs zs : List V} {E : XK} (M : Mk X.K C f) (F : FnOk X.prog X.w X.K X.mg X.base CX k f fd ps sp) (hr : Room (k + 1) X.A) (hb : KBn X.K fd ps (n + 1) ks g gV)
    (hx : PassesAt CX X σ E) (I : Inv X pins σ H s) (r : Vals vs us) (rz : Vals zs ws) (l1 : vs.length = n) (l2 : zs.length = ks.length)
    (h : LMake C (fun x => gV (.ref x :: vs) zs) sp H Q E) :
    wpAny (model X.prog X.w) X.A (call (.ref C) us (ks.zip ws)) (EP X pins σ Q) X.xe s := by
  have hq := h (s.heap.objs.size + 1) s.heap.objs.size (I.hok.fresh (Nat.le_succ _)) (I.hok.fresh (Nat.le_refl _)) (Nat.ne_of_lt (Nat.lt_succ_self _))
  have I2 := Inv.made (C := C) I
  have r1 : Vals (V.ref (s.heap.objs.size + 1) :: vs) (Value.ref (s.heap.objs.size + 1) :: us) := .cons rfl r
  have r2 := hb.rel r1 rz
  have e1 : (Value.ref (s.heap.objs.size + 1) :: us).length = n + 1 := r1.length.symm.trans (congrArg Nat.succ l1)
  have e2 : ws.length = ks.length := rz.length.symm.trans l2
  refine wpAny_call (make_map (f := f) I.kIn M.makes M.init (beq_iff_eq.mp M.fn) (codeAny_mono (F.run _ X.stack _ _ ⟨Value.ref (s.heap.objs.size + 1) :: us, ks.zip ws⟩ (g (Value.ref (s.heap.objs.size + 1) :: us) ws) _ _ E (hr.make C us (ks.zip ws))
    (I2.env0.make C us (ks.zip ws)) (hb.to _ (Value.ref (s.heap.objs.size + 1) :: us) ws I2.kIn e1 e2) r2 hq) fun r s' hq' => ?_))
  cases r with
  | error e => exact hx pins _ _ e s' I2 hq'
  | ok fl =>
    cases fl with
    | ret u =>
      obtain ⟨v, H', I3, rv, ev, q3⟩ := I2.after hq'
      subst ev
      exact ⟨rv, ⟨V.ref (s.heap.objs.size + 1), H', I3, rfl, q3⟩⟩
    | next => exact False.elim hq'
    | brk => exact False.elim hq'
    | cont => exact False.elim hq'
theorem run_makeS {pins : List (Addr × Obj)} {σ : St} {H : Hp} {s : Shared} {Q : VK} {us : List Value} {vs : List V} {E : XK} (M : Mk X.K C f) (F : FnOk X.prog X.w X.K X.mg X.base CX k f fd ps sp) (hr : Room (k + 1) X.A) (hb : Binds X.K fd ps [])
    (hx : PassesAt CX X σ E) (I : Inv X pins σ H s) (r : Vals vs us) (h : LMake C (fun x => .ref x :: vs) sp H Q E) :
    wpAny (model X.prog X.w) X.A (call (.ref C) us) (EP X pins σ Q) X.xe s := by
  have hq := h (s.heap.objs.size + 1) s.heap.objs.size (I.hok.fresh (Nat.le_succ _)) (I.hok.fresh (Nat.le_refl _)) (Nat.ne_of_lt (Nat.lt_succ_self _))
  have I2 := Inv.made (C := C) I
  have r2 : Vals (V.ref (s.heap.objs.size + 1) :: vs) (Value.ref (s.heap.objs.size + 1) :: us) := .cons rfl r
  have hl : (Value.ref (s.heap.objs.size + 1) :: us ++ []).length = ps.length := by
    have e := r2.length
    rw [F.len _ _ _ _ hq] at e
    rw [List.append_nil]
    exact e.symm
  have b := hb _ (Value.ref (s.heap.objs.size + 1) :: us) I2.kIn hl
  rw [List.append_nil] at b
  refine wpAny_call (make_map (f := f) I.kIn M.makes M.init (beq_iff_eq.mp M.fn) (codeAny_mono (F.run _ X.stack _ _ ⟨Value.ref (s.heap.objs.size + 1) :: us, []⟩ (Value.ref (s.heap.objs.size + 1) :: us) _ _ E (hr.make C us [])
    (I2.env0.make C us []) b r2 hq) fun r s' hq' => ?_))
  cases r with
  | error e => exact hx pins _ _ e s' I2 hq'
  | ok fl =>
    cases fl with
    | ret u =>
      obtain ⟨v, H', I3, rv, ev, q3⟩ := I2.after hq'
      subst ev
      exact ⟨rv, ⟨V.ref (s.heap.objs.size + 1), H', I3, rfl, q3⟩⟩
    | next => exact False.elim hq'
    | brk => exact False.elim hq'
    | cont => exact False.elim hq'
/-- C(e, ..): every parameter is given -/
def tMakeS (C : Addr) (sp : Sp) (E : St → XK) (t : TA) : TE := fun σ H Q => t σ H fun vs H1 => LMake C (fun x => .ref x :: vs) sp H1 Q (E σ)
theorem pe_makeS (M : Mk X.K C f) (F : FnOk X.prog X.w X.K X.mg X.base CX k f fd ps sp) (hr : Room (k + 1) X.A) (hg : Gl X x) (hm : X.mg x = some (.ref C)) (hb : Binds X.K fd ps [])
    (hx : ∀ σ, PassesAt CX X σ (E σ)) (ha : PA X (e :: es) t) (hdb : (x == ("__debug__" : Str)) = false := by decide) (he : starEach (e :: es) X.env = (false, eval e X.env) :: starEach es X.env := by rfl) (hpl : (backTo pos (starEach es X.env)).any (·.1) = false := by rfl) :
    PE X (.Call (.Name x p) (e :: es) [] pos) (tMakeS C sp E t) := by
  refine ⟨fun pins s σ H Q I h => ?_⟩
  refine wpAny_Call_Name_kw (ld_glob I hg hm ?_ hdb)
  refine PySem.W.callWith_K (h₀ := X.base) I.ok.mod.kin M.kp (thn (ha.run pos pins s σ H _ I h) fun us s1 ⟨vs, H1, I1, r, q⟩ => ⟨I1.kIn, ?_⟩) he hpl
  exact run_makeS M F hr hb (hx σ) I1 r q
theorem pe_makeS0 (M : Mk X.K C f) (F : FnOk X.prog X.w X.K X.mg X.base CX k f fd ps sp) (hr : Room (k + 1) X.A) (hg : Gl X x) (hm : X.mg x = some (.ref C)) (hb : Binds X.K fd ps [])
    (hx : ∀ σ, PassesAt CX X σ (E σ)) (hdb : (x == ("__debug__" : Str)) = false := by decide) : PE X (.Call (.Name x p) [] [] pos) (tMakeS C sp E tNil) := by
  refine ⟨fun pins s σ H Q I h => ?_⟩
  refine wpAny_Call_Name_kw (ld_glob I hg hm ?_ hdb)
  exact PySem.W.callWith_K0 I.kIn M.kp (run_makeS (us := []) M F hr hb (hx σ) I .nil h)
/-- C(e, .., k = v, ..) -/
def tMakeG (C : Addr) (n m : Nat) (sp : Sp) (gV : List V → List V → List V) (E : St → XK) (t tk : TA) : TE := fun σ H Q => t σ H fun vs H1 => tk σ H1 fun zs H2 => vs.length = n ∧ zs.length = m ∧ LMake C (fun x => gV (.ref x :: vs) zs) sp H2 Q (E σ)
theorem pe_makeG (M : Mk X.K C f) (F : FnOk X.prog X.w X.K X.mg X.base CX k f fd ps sp) (hr : Room (k + 1) X.A) (hg : Gl X x) (hm : X.mg x = some (.ref C)) (hb : KBn X.K fd ps (n + 1) ks g gV)
    (hx : ∀ σ, PassesAt CX X σ (E σ)) (ha : PA X (e :: es) t) (hkw : PK X kws tk) (hall : (backToKw pos (keywordEach kws X.env)).all (·.1.isSome) = true := by rfl) (hks : (backToKw pos (keywordEach kws X.env)).filterMap (·.1) = ks := by rfl)
    (hdb : (x == ("__debug__" : Str)) = false := by decide) (he : starEach (e :: es) X.env = (false, eval e X.env) :: starEach es X.env := by rfl)
    (hpl : ((backTo pos (starEach (e :: es) X.env)).any (·.1) || (backToKw pos (keywordEach kws X.env)).any (·.1.isNone)) = false := by rfl) :
    PE X (.Call (.Name x p) (e :: es) kws pos) (tMakeG C n ks.length sp gV E t tk) := by
  refine ⟨fun pins s σ H Q I h => ?_⟩
  refine wpAny_Call_Name_kw (ld_glob I hg hm ?_ hdb)
  refine PySem.W.callWith_KW (h₀ := X.base) I.ok.mod.kin M.kp hall (thn (ha.run pos pins s σ H _ I h) fun us s1 ⟨vs, H1, I1, r, q⟩ => ?_) hpl he
  refine thn (hkw.run pos pins s1 σ H1 _ I1 q) fun ws s2 ⟨zs, H2, I2, rz, l1, l2, q2⟩ => ⟨I2.kIn, ?_⟩
  rw [hks]
  exact run_makeG M F hr hb (hx σ) I2 r rz l1 l2 q2
end
end LW

set_option maxHeartbeats 4000000
namespace LW
open PySem PySem.Spec PyProof.Rows L2 L2H HotX
/-! ### a def that is called within an except suite, the caught exception among its arguments -/
/-- sp: the exception's address, class, own dict, then as a promise -/
abbrev SpE := Addr → Value → Option Addr → Sp
structure FnE (P : Program) (w : World) (K : PySem.W.Frag) (mg : Str → Option Value) (base : Heap) (k : Nat) (f : Addr) (fd : FuncData) (ps : List Str) (sp : SpE) : Prop where
  len : ∀ a c d vs H Q E, sp a c d vs H Q E → vs.length = ps.length
  run : ∀ (A : Around) (outer : List Env) (s : Shared) (H : Hp) (args : Args) (us : List Value) (vs : List V) (Q : VK) (E : XK) (q : Addr × Obj) (c : Value) (d : Option Addr), RoomH k A → Hot1 A q → PinOk outer H s q →
    Zc c d q.2 → Env0 P w K mg base A outer s H → BindsTo s fd args (ps.zip us) → Vals vs us → sp q.1 c d vs H Q E → codeAny (model P w) A (.call (.ref f) args) (CR CX0 outer P w H s Q E) s
theorem fnE_of {P : Program} {w : World} {K : PySem.W.Frag} {mg : Str → Option Value} {base : Heap} {k : Nat} {f : Addr} {fd : FuncData} {x qual : Str} {params : Arguments} {body : List Stmt} {scope : Scope} {dvs : List V} {kws : List (Str × V)}
    {N ps : List Str} {sp : SpE} (F : FunD K x qual params body scope dvs kws f fd) (S : FnScope N ps scope) (len : ∀ a c d vs H Q E, sp a c d vs H Q E → vs.length = ps.length)
    (hbody : ∀ (cdv : Value) (A : Around) (outer : List Env) (s : Shared) (H : Hp) (vs : List V) (Q : VK) (E : XK) (q : Addr × Obj) (c : Value) (d : Option Addr), Hot1 A q → Zc c d q.2 →
      RoomH k (A.deeper (envOfC qual scope s.heap.objs.size f cdv)) → sp q.1 c d vs H Q E →
      ∃ t, PSs (cxH CX0 P w K mg base N qual scope f cdv A outer s H E q) body t ∧ t { nx := fun _ H' => Q .non H', rt := Q } (L2.start N vs) H) : FnE P w K mg base (k + 1) f fd ps sp := by
  obtain ⟨oc, od, dV, kV, doc, pm, an, cdv, ct, osl, rfl, lk, hcd, _, _⟩ := F.ex
  constructor
  · exact len
  intro A outer s H args us vs Q E q c d hr hot hpin hz e0 hb r hsp
  have hl := len _ _ _ _ _ _ _ hsp
  have KX : K.In s.heap := e0.mod.kin.keeps fun b o e => (e0.bs b o e).1
  have lim : s.heap.NoLimit := e0.mod.nolimit.keeps fun b o e => (e0.bs b o e).1
  have hkd : ∀ y ∈ ps.zip us, scope.names.lookup y.1 = some .local ∨ (scope.names.lookup y.1 = some .cell ∧ ((cellsFrom (s.heap.objs.size + 1) scope.names []).lookup y.1).isSome = true) := by
    rintro ⟨n, v⟩ hy
    rcases S.par n (List.of_mem_zip hy).1 with z | z
    · exact .inl z
    · exact .inr ⟨z, PySem.W.cellsFrom_some _ _ _ (.inl z)⟩
  refine codeAny_call_function hr.depth (KX _ _ lk) rfl S.co S.gen rfl (PySem.W.codeRec_of KX hcd) (hb _ _ _ _ ?_)
  refine wpAny_newFunctionEnv_cells S.kind hkd fun env he s1 xx => ?_
  subst he
  refine ⟨lim.keeps xx.toInCall.keep, codeAny_func ?_⟩
  obtain ⟨t, ht, hq⟩ := hbody cdv A outer s H vs Q E q c d hot hz (hr.deeper _) hsp
  have I := inv_startH (CX := CX0) (E := E) S hpin e0 hl r xx
  refine wpAny_mono (ht.run [] s1 (L2.start N vs) H _ I hq) (fun fl s' hs => ?_) fun e s' hs => hs
  match fl, hs with
  | .ret u, hs =>
    obtain ⟨v, σ', H', J, rv, z⟩ := hs
    exact ⟨v, H', J.os, J.bare, J.base, J.hok, rv, z⟩
  | .next, hs =>
    obtain ⟨σ', H', J, z⟩ := hs
    exact ⟨V.non, H', J.os, J.bare, J.base, J.hok, (rfl : RelV .non Value.none), z⟩
  | .brk, hs => exact (let ⟨_, _, _, z⟩ := hs; z.elim)
  | .cont, hs => exact (let ⟨_, _, _, z⟩ := hs; z.elim)

/-! ### exceptions of one's own: what isinstance tells of them -/
def exC1 (K : PySem.W.Frag) (D : Addr) : Bool :=
  PySem.W.findIn K (.ref D) "__getattribute__" == some (some (.builtin "BaseException.__getattribute__")) && PySem.W.findIn K (.ref D) "__getattr__" == some none && PySem.W.subIn K (.ref D) (.type "BaseException") == some true && PySem.W.hasDictIn K D &&
  PySem.W.findIn K (.ref D) "__class__" == some (some (.builtin "object.__class__")) && PySem.W.specialIn K (.builtin "object.__class__") "__get__" == some (some (.builtin "getset_descriptor.__get__")) && PySem.W.takesIn K (.builtin "object.__class__") == some true &&
  PySem.W.mroIn K D (.type "object") == some true
def exkB (l : List Str) (K : PySem.W.Frag) : Bool := l.all fun x => exC1 K (He.ga K x) && PySem.W.kitOne K (.ref (He.ga K x)) (.type "ValueError") == some true && l.all fun y => PySem.W.kitOne K (.ref (He.ga K x)) (.ref (He.ga K y)) == some (decide (x = y))
structure ExcK (l : List Str) (K : PySem.W.Frag) : Prop where
  exC : ∀ x ∈ l, ExcC K (He.ga K x)
  kitV : ∀ x ∈ l, PySem.W.kitOne K (.ref (He.ga K x)) (.type "ValueError") = some true
  kit : ∀ x ∈ l, ∀ y ∈ l, PySem.W.kitOne K (.ref (He.ga K x)) (.ref (He.ga K y)) = some (decide (x = y))
theorem exk_of {l : List Str} {K : PySem.W.Frag} (h : exkB l K = true) : ExcK l K := by
  unfold exkB at h
  rw [List.all_eq_true] at h
  refine ⟨fun x m => ?_, fun x m => ?_, fun x m y n => ?_⟩
  all_goals
    have a := h x m
    rw [Bool.and_eq_true, Bool.and_eq_true] at a
    obtain ⟨⟨a, b⟩, c⟩ := a
  · unfold exC1 at a
    simp only [Bool.and_eq_true, beq_iff_eq] at a
    obtain ⟨⟨⟨⟨⟨⟨⟨a1, a2⟩, a3⟩, a4⟩, a5⟩, a6⟩, a7⟩, a8⟩ := a
    exact ⟨a1, a2, a3, a4, a5, a6, a7, a8⟩
  · exact beq_iff_eq.mp b
  · exact beq_iff_eq.mp (List.all_eq_true.mp c y n)
theorem isD {K : PySem.W.Frag} {D : Addr} {x : Str} (h : PySem.W.kitOne K (.ref D) (.ref D) = some (decide (x = x))) : PySem.W.kitOne K (.ref D) (.ref D) = some true := by rw [h, decide_eq_true rfl]
theorem isC {K : PySem.W.Frag} {D C : Addr} {x y : Str} (h : PySem.W.kitOne K (.ref D) (.ref C) = some (decide (x = y))) (n : x ≠ y) : PySem.W.kitOne K (.ref D) (.ref C) = some false := by rw [h, decide_eq_false n]
theorem l_isEt {K : PySem.W.Frag} {D C a : Addr} {b : Bool} {H : Hp} {Q : VK} (h : PySem.W.kitOne K (.ref D) (.ref C) = some b) (q : Q (.bl b) H) : rIsE K D a [.ref a, .ref C] H Q := ⟨_, .ref C, b, rfl, fun _ r => r, h, q⟩
theorem l_isEV {K : PySem.W.Frag} {D a : Addr} {n : String} {b : Bool} {H : Hp} {Q : VK} (h : PySem.W.kitOne K (.ref D) (.type n) = some b) (q : Q (.bl b) H) : rIsE K D a [.ref a, .ty n] H Q := ⟨_, .type n, b, rfl, fun _ r => r, h, q⟩
theorem roomS {X : Cx} {k : Nat} {a : Addr} {pn : List (Addr × Obj)} (r : Room k X.A) : RoomH k (X.suite a pn).A := ⟨r.dp, r.un⟩
theorem hu64H {k : Nat} {A : Around} (r : RoomH k A) : A.units + 64 < cLine := by have := r.un; omega
theorem hu1H {k : Nat} {A : Around} (r : RoomH k A) : A.units + 1 < cLine := by have := r.un; omega
theorem hot_suite {X : Cx} {a : Addr} {oe : Obj} {cls : Value} {d : Option Addr} {pn : List (Addr × Obj)} (hz : L2N.Zn cls d oe) (hf : ∃ vs, oe.data = .fields vs) : Hot1 (X.suite a ((a, oe) :: pn)).A (a, oe) :=
  ⟨rfl, let ⟨vs, e⟩ := hf; ⟨vs, e, hz.2.2 vs e⟩⟩
section
variable {X : Cx} {k : Nat} {f : Addr} {fd : FuncData} {ps : List Str} {sp : SpE} {x : Str} {p pos : Pos} {e : Expr} {es : List Expr} {t : TA}
/-- f(err, ..) in the suite: no exception leaves f -/
def tCallE (sp : SpE) (a : Addr) (c : Value) (d : Option Addr) (t : TA) : TE := fun σ H Q => t σ H fun vs H1 => sp a c d vs H1 Q E0
theorem pe_callE {q : Addr × Obj} {c : Value} {d : Option Addr} (F : FnE X.prog X.w X.K X.mg X.base k f fd ps sp) (hr : RoomH k X.A) (hot : Hot1 X.A q) (hq : q ∈ X.pn) (hz : Zc c d q.2) (hg : Gl X x) (hm : X.mg x = some (.ref f))
    (hk : PySem.W.keepIn X.K (.ref f) = true) (hb : Binds X.K fd ps []) (ha : PA X (e :: es) t) (hdb : (x == ("__debug__" : Str)) = false := by decide) (he : starEach (e :: es) X.env = (false, eval e X.env) :: starEach es X.env := by rfl)
    (hpl : (backTo pos (starEach es X.env)).any (·.1) = false := by rfl) : PE X (.Call (.Name x p) (e :: es) [] pos) (tCallE sp q.1 c d t) := by
  constructor
  intro pins s σ H Q I h
  refine wpAny_Call_Name_kw (ld_glob I hg hm ?_ hdb)
  refine PySem.W.callWith_K (h₀ := X.base) I.ok.mod.kin hk (thn (ha.run pos pins s σ H _ I h) fun us s1 hh => ?_) he hpl
  obtain ⟨vs, H1, I1, r, hs⟩ := hh
  refine ⟨I1.kIn, ?_⟩
  have hl : us.length = ps.length := by rw [← r.length]; exact F.len _ _ _ _ _ _ _ hs
  have b := hb s1 us I1.kIn (by rw [List.append_nil]; exact hl)
  rw [List.append_nil] at b
  have P1 := I1.pin q (List.mem_append_left _ hq)
  have hpin : PinOk X.stack H1 s1 q := ⟨P1.1, P1.2.1, fun hm => (List.mem_cons.mp (I1.stkSub q.1 hm)).elim P1.2.2.1 P1.2.2.2.1, P1.2.2.2.2⟩
  refine wpAny_call (codeAny_mono (F.run X.A X.stack s1 H1 ⟨us, []⟩ us vs Q E0 q c d hr hot hpin hz I1.env0 b r hs) fun res s' hq => ?_)
  match res, hq with
  | .error e, hq => exact hq.elim
  | .ok (.ret u), hq => exact I1.after hq

/-- in the suite of a try -/
theorem pe_callES {a : Addr} {oe : Obj} {cls : Value} {d : Option Addr} {pn : List (Addr × Obj)} (F : FnE X.prog X.w X.K X.mg X.base k f fd ps sp) (hr : Room k X.A) (hz : L2N.Zn cls d oe) (hf : ∃ vs, oe.data = .fields vs) (hg : Gl X x) (hm : X.mg x = some (.ref f))
    (hk : PySem.W.keepIn X.K (.ref f) = true) (hb : Binds X.K fd ps []) (ha : PA (X.suite a ((a, oe) :: pn)) (e :: es) t) (hdb : (x == ("__debug__" : Str)) = false := by decide) (he : starEach (e :: es) (X.suite a ((a, oe) :: pn)).env = (false, eval e (X.suite a ((a, oe) :: pn)).env) :: starEach es (X.suite a ((a, oe) :: pn)).env := by rfl)
    (hpl : (backTo pos (starEach es (X.suite a ((a, oe) :: pn)).env)).any (·.1) = false := by rfl) : PE (X.suite a ((a, oe) :: pn)) (.Call (.Name x p) (e :: es) [] pos) (tCallE sp a cls d t) :=
  pe_callE (X := X.suite a ((a, oe) :: pn)) (q := (a, oe)) (c := cls) (d := d) F (roomS hr) (hot_suite hz hf) List.mem_cons_self hz.zc hg hm hk hb ha hdb he hpl
/-- isinstance(err, C), err the exception that a context bears -/
theorem call_isP {q : Addr × Obj} {D : Addr} (hq : q ∈ X.pn) (C : ExcC X.K D) (hz : Zc (.ref D) none q.2) (hf : ∃ vs, q.2.data = .fields vs) : CallR X (.builtin "isinstance") (rIsE X.K D q.1) := by
  intro pins s σ H xs us Q I r h
  obtain ⟨c, cv, b, rfl, hcv, e, z⟩ := h
  match us, r with
  | [u1, u2], .cons rx (.cons rt .nil) =>
    cases rx
    have ec := hcv _ rt
    subst ec
    have hget := (I.pin q (List.mem_append_left _ hq)).1
    obtain ⟨a, oe⟩ := q
    obtain ⟨vs, hv⟩ := hf
    have J : PySem.W.InstAt s.heap a oe D none := by
      obtain ⟨oc, od, oda, osl⟩ := oe
      obtain ⟨h1, h2⟩ := hz
      dsimp only at h1 h2 hv
      subst h1 h2 hv
      exact ⟨hget, rfl, rfl, trivial⟩
    exact PySem.W.kia_one (PySem.W.handS_kitx_exc C.hg C.hk C.hs C.hd C.ha C.hn C.ht C.hm) I.kIn J e (fun y => nomatch y) fun tk => ⟨.bl b, H, I.kept (t' := tk) fun _ _ y => y, rfl, z⟩
end

/-! ### a for over a list that is left before its end, where an exception is handled -/
structure TurnN (P : Program) (w : World) (K : PySem.W.Frag) (tg : Expr) (J : It) (fp : List Addr) (it : Addr) (tn : Nat → Heap → Prop) : Prop where
  mem : it ∈ fp
  obj : ∀ i h, tn i h → ∀ b ∈ fp, ∃ o, h.get? b = some o ∧ ∀ v, o.data ≠ .cell v
  keep : ∀ i h h', tn i h → (∀ b ∈ fp, ∀ o, h.get? b = some o → h'.get? b = some o) → tn i h'
  item : ∀ (X : Cx), X.prog = P → X.w = w → X.K = K → ∀ (i : Nat) (pins : List (Addr × Obj)) (s : Shared) (σ : St) (H : Hp) (E : Value → Shared → Prop), Inv X pins σ H s → (∀ b ∈ fp, FpOk X pins H b) → tn i s.heap → J.go i H →
    wpAny (model P w) X.A (pyNext (.ref it)) (fun r s1 => ∃ u, r = some u ∧
      wpAny (model P w) X.A (letOwnedTupleGo tg (.ref it) u) (fun _ s2 => ∃ x H', Inv X pins σ H' s2 ∧ RelV x u ∧ J.yld i H x H' ∧ tn (i + 1) s2.heap ∧ ∀ b ∈ fp, H' b = none) E s1) E s
theorem turnN_list {P : Program} {w : World} {K : PySem.W.Frag} {tg : Expr} (a it : Addr) : TurnN P w K tg (Itl K a) [it] it (fun i h => h.IsListIter it a i) where
  mem := List.mem_singleton.mpr rfl
  obj := (turn_list (P := P) (w := w) (K := K) (tg := tg) a it).obj
  keep := (turn_list (P := P) (w := w) (K := K) (tg := tg) a it).keep
  item := by
    rintro X rfl rfl rfl i pins s σ H E I hf st ⟨xs, x, hq, hx⟩
    obtain ⟨its, rv, p, hz⟩ := I.list hq
    obtain ⟨u, hu, ru⟩ := rv.get hx
    obtain ⟨f0, f1, f2, f3, f4, f5⟩ := hf it (List.mem_singleton.mpr rfl)
    refine wpAny_pyNext_list_item st p.isList (x := u) (by simpa using hu) fun h' st' sb => ?_
    have I1 : Inv X pins σ H { s with heap := h' } := I.turned (t' := s.toks) (fun b o hb e => (sb.2 b hb).trans e) f0 f1 f3 f4 f5
    obtain ⟨o, e, c, d⟩ := id st'
    refine ⟨u, rfl, go_of (s := { s with heap := h' }) e c d (by decide) ?_⟩
    exact ⟨x, H, I1, ru, ⟨rfl, fun ys hy => by rw [I.list_inj hy hq]; exact hx⟩, st', fun b hb => (hf b hb).1⟩
def PIEN (X : Cx) (pins : List (Addr × Obj)) (σ : St) (tg : Expr) (R : It → Hp → Prop) (itv : Value) (s2 : Shared) : Prop :=
  ∃ (it : Addr) (fp : List Addr) (tn : Nat → Heap → Prop) (J : It) (H' : Hp), itv = .ref it ∧ Inv X pins σ H' s2 ∧ TurnN X.prog X.w X.K tg J fp it tn ∧ tn 0 s2.heap ∧ (∀ b ∈ fp, FpOk X pins H' b) ∧ R J H'
structure PIN (X : Cx) (tg iter : Expr) (wi : TI) : Prop where
  run : ∀ (pins : List (Addr × Obj)) (s : Shared) (σ : St) (H : Hp) (R : It → Hp → Prop), Inv X pins σ H s → wi σ H R →
    wpAny (model X.prog X.w) X.A (eval iter X.env) (fun v s1 => wpAny (model X.prog X.w) X.A (pyIter v) (PIEN X pins σ tg R) X.xe s1) X.xe s
section
variable {X : Cx} {tg : Expr}
theorem pi_listN {l : Expr} {tl : TE} (hl : PE X l tl) : PIN X tg l (iList X.K tl) := by
  constructor
  intro pins s σ H R I h
  refine thn (hl.run pins s σ H _ I h) fun v s1 hh => ?_
  obtain ⟨x, H1, I1, r1, a, e, ⟨xs, hq⟩, q⟩ := hh
  subst e
  cases r1
  obtain ⟨its, rv, p, hz⟩ := I1.list hq
  refine wpAny_pyIter_list p.isList ?_
  refine ⟨s1.heap.objs.size, [s1.heap.objs.size], _, _, H1, rfl, I1.kept (t' := s1.toks) fun b o e => Heap.get?_push_of_some _ e, turnN_list a _, ⟨_, Heap.get?_push_size _ rfl, rfl, rfl⟩, fun b hb => ?_, q⟩
  obtain rfl : b = s1.heap.objs.size := by simpa using hb
  exact I1.fpOk (Nat.le_refl _) (I1.hok.fresh (Nat.le_refl _))
theorem pi_listNS {l : Expr} {tl : TE} {a : Addr} {pn : List (Addr × Obj)} (hl : PE (X.suite a pn) l tl) : PIN (X.suite a pn) tg l (iList X.K tl) := pi_listN (X := X.suite a pn) hl
/-- the loop never comes to its end -/
def tForN (wi : TI) (g : TG) (tb : TS) : TS := fun D σ H => wi σ H fun J H1 => ∃ W : Nat → Nat → St → Hp → Prop, (∃ m, W 0 m σ H1) ∧ ∀ i m σ H, W i m σ H →
  J.go i H ∧ ∃ N : St → Hp → Prop, (∀ σ' H', N σ' H' → ∃ m', m' < m ∧ W (i + 1) m' σ' H') ∧ ∀ x H', J.yld i H x H' → g x σ H' fun σ2 H2 => tb { D with nx := N, ct := N, bk := D.nx } σ2 H2
theorem ps_forN {iter : Expr} {body : List Stmt} {wi : TI} {g : TG} {tb : TS} {pos : Pos} (hp : PassesOwn (model X.prog X.w) X.A X.env X.xe) (hi : PIN X tg iter wi) (hg : PG X tg g) (hb : PSs X body tb)
    (hs : ∀ x, foldedSetIterable iter X.env x = pure x := by intro _; rfl) : PS X (.For tg iter body [] pos) (tForN wi g tb) := by
  constructor
  intro pins s σ H D I h
  refine wpAny_For (thn (hi.run pins s σ H _ I h) fun v s1 h1 => thn h1 fun itv s2 h2 => ?_) hs
  obtain ⟨it, fp, tn, J, H2, e, I2, T, st2, f2, W, ⟨m0, w0⟩, turn⟩ := h2
  subst e
  have stat : ∀ {H' : Hp}, (∀ b ∈ fp, H' b = none) → ∀ b ∈ fp, FpOk X pins H' b := fun hn b hb => ⟨hn b hb, (f2 b hb).2⟩
  refine codeAny_forLoop_any (fun n s' => ∃ i σ' H', Inv X pins σ' H' s' ∧ tn i s'.heap ∧ (∀ b ∈ fp, H' b = none) ∧ W i n σ' H') ?_ m0 ⟨0, σ, H2, I2, st2, fun b hb => (f2 b hb).1, w0⟩
  rintro n s3 ⟨i, σ3, H3, I3, st3, fr3, w3⟩
  obtain ⟨go, N, hN, step⟩ := turn i n σ3 H3 w3
  refine wpAny_passesOwn hp (thn (T.item X rfl rfl rfl i pins s3 σ3 H3 X.xe I3 (stat fr3) st3 go) fun r s4 h4 => ?_)
  obtain ⟨u, hr, h4⟩ := h4
  subst hr
  refine wpAny_passesOwn hp (thn h4 fun _ s5 h5 => ?_)
  obtain ⟨x, H5, I5, r5, y5, st5, fr5⟩ := h5
  have I5' := I5.pinned (stat fr5) (T.obj _ _ st5)
  refine wpAny_passesOwn hp (thn (hg.run _ s5 σ3 H5 x u _ I5' r5 (step x H5 y5)) fun _ s6 h6 => ?_)
  obtain ⟨σ6, H6, I6, q6⟩ := h6
  refine wpAny_passesOwn hp (thn (hb.run _ s6 σ6 H6 _ I6 q6) fun f s7 q7 => ?_)
  have again : ∀ {σ7 : St} {H7 : Hp}, Inv X (pins ++ pinsAt fp s5.heap) σ7 H7 s7 → N σ7 H7 → ∃ m, m < n ∧ ∃ i σ' H', Inv X pins σ' H' s7 ∧ tn i s7.heap ∧ (∀ b ∈ fp, H' b = none) ∧ W i m σ' H' := by
    intro σ7 H7 I7 n7
    obtain ⟨m', hm, w7⟩ := hN σ7 H7 n7
    refine ⟨m', hm, i + 1, σ7, H7, I7.unpinned, T.keep _ _ _ st5 fun b hb o e => ?_, fun b hb => ?_, w7⟩
    · exact (I7.pin (b, o) (List.mem_append_right _ (List.mem_append_right _ (mem_pinsAt hb e)))).1
    · obtain ⟨o, e, d⟩ := T.obj _ _ st5 b hb
      exact (I7.pin (b, o) (List.mem_append_right _ (List.mem_append_right _ (mem_pinsAt hb e)))).2.1
  match f, q7 with
  | .next, q7 => obtain ⟨σ7, H7, I7, n7⟩ := q7; exact again I7 n7
  | .cont, q7 => obtain ⟨σ7, H7, I7, n7⟩ := q7; exact again I7 n7
  | .brk, q7 => obtain ⟨σ7, H7, I7, q7⟩ := q7; exact ⟨σ7, H7, I7.unpinned, q7⟩
  | .ret v, q7 => obtain ⟨x7, σ7, H7, I7, r7, q7⟩ := q7; exact ⟨x7, σ7, H7, I7.unpinned, r7, q7⟩
/-- over a list that stays; P: what holds ahead of turn i; at turn n the loop is left at the latest -/
theorem forN_list {K : PySem.W.Frag} {a : Addr} {xs : List V} {g : TG} {tb : TS} {D : Ends} {σ : St} {H : Hp} (Pv : Nat → St → Hp → Prop) (h0 : Pv 0 σ H) (hl : ∀ i σ H, Pv i σ H → SqL K H a xs) (hn : ∀ i σ H, Pv i σ H → i < xs.length)
    (hs : ∀ i x σ H, xs[i]? = some x → Pv i σ H → g x σ H fun σ2 H2 => tb { D with nx := Pv (i + 1), ct := Pv (i + 1), bk := D.nx } σ2 H2) :
    ∃ W : Nat → Nat → St → Hp → Prop, (∃ m, W 0 m σ H) ∧ ∀ i m σ H, W i m σ H →
      (Itl K a).go i H ∧ ∃ N : St → Hp → Prop, (∀ σ' H', N σ' H' → ∃ m', m' < m ∧ W (i + 1) m' σ' H') ∧ ∀ x H', (Itl K a).yld i H x H' → g x σ H' fun σ2 H2 => tb { D with nx := N, ct := N, bk := D.nx } σ2 H2 := by
  refine ⟨fun i m σ H => m = xs.length - i ∧ Pv i σ H, ⟨xs.length, by simp, h0⟩, ?_⟩
  rintro i m σ H ⟨rfl, p⟩
  have q := hl i σ H p
  have hlt := hn i σ H p
  refine ⟨⟨xs, xs[i], q, by simp [hlt]⟩, Pv (i + 1), fun σ' H' p' => ⟨xs.length - (i + 1), by omega, rfl, p'⟩, fun x H' y => ?_⟩
  obtain ⟨e, y⟩ := y
  subst e
  exact hs i x σ _ (y xs q) p
end
end LW

set_option maxHeartbeats 4000000
namespace LW
open PySem PySem.Spec PyProof.Rows L2

/-! ### the heap: what is kept but at F (tuples always are) -/
structure Ext (F : List Addr) (H H' : Hp) : Prop where
  keep : ∀ a o, H a = some o → a ∉ F → H' a = some o
  tups : ∀ a xs, H a = some (.tup xs) → H' a = some (.tup xs)
theorem Ext.refl (F : List Addr) (H : Hp) : Ext F H H := ⟨fun _ _ h _ => h, fun _ _ h => h⟩
theorem Ext.trans {F : List Addr} {H H1 H2 : Hp} (a : Ext F H H1) (b : Ext F H1 H2) : Ext F H H2 :=
  ⟨fun c o h n => b.keep c o (a.keep c o h n) n, fun c xs h => b.tups c xs (a.tups c xs h)⟩
theorem Ext.mono {F G : List Addr} {H H' : Hp} (e : Ext F H H') (h : ∀ a ∈ F, a ∈ G ∨ H a = none) : Ext G H H' :=
  ⟨fun a o q n => e.keep a o q fun z => (h a z).elim n fun y => (by rw [y] at q; cases q), e.tups⟩
theorem Ext.sub {F G : List Addr} {H H' : Hp} (e : Ext F H H') (h : ∀ a ∈ F, a ∈ G) : Ext G H H' := e.mono fun a z => .inl (h a z)
/-- one after another, the second's footprint within the first's and what was new -/
theorem Ext.then {F G : List Addr} {H H1 H2 : Hp} (a : Ext F H H1) (b : Ext G H1 H2) (h : ∀ c ∈ G, c ∈ F ∨ H c = none) : Ext F H H2 :=
  ⟨fun c o q n => b.keep c o (a.keep c o q n) fun z => (h c z).elim n fun y => (by rw [y] at q; cases q), fun c xs q => b.tups c xs (a.tups c xs q)⟩
theorem Ext.new {F : List Addr} {H : Hp} {p : Addr} {o : HO} (h : H p = none) : Ext F H (upd H p o) :=
  ⟨fun a u e _ => (by rw [upd_ne (ne_of_none e h)]; exact e), fun a u e => (by rw [upd_ne (ne_of_none e h)]; exact e)⟩
theorem Ext.write {F : List Addr} {H : Hp} {p : Addr} {o u : HO} (h : H p = some u) (m : ∀ xs, u ≠ .tup xs) (hp : p ∈ F) : Ext F H (upd H p o) :=
  ⟨fun a v e n => (by rw [upd_ne (fun z => n (by rw [z]; exact hp))]; exact e), fun a xs e => (by rw [upd_ne (ne_of e h fun z => m xs z.symm)]; exact e)⟩
theorem Ext.free {F : List Addr} {H H' : Hp} {p : Addr} (e : Ext F H H') (h : H' p = none) (n : p ∉ F) : H p = none := by
  cases q : H p with
  | none => rfl
  | some o =>
    rw [e.keep p o q n] at h
    cases h
theorem Ext.same {H H' : Hp} (e : Ext [] H H') : Same H H' := fun a o h => e.keep a o h (by simp)
theorem Same.ext {F : List Addr} {H H' : Hp} (e : Same H H') : Ext F H H' := ⟨fun a o h _ => e a o h, fun a xs h => e a _ h⟩
theorem Ext.seqL {F : List Addr} {K : PySem.W.Frag} {H H' : Hp} {a : Addr} {xs : List V} (e : Ext F H H') (n : a ∉ F) (h : SqL K H a xs) : SqL K H' a xs := by
  rcases h with (h | ⟨o, h⟩) | h
  · exact .inl (.inl (e.keep _ _ h n))
  · exact .inl (.inr ⟨o, e.keep _ _ h n⟩)
  · exact .inr h
theorem Ext.wr {F : List Addr} {H H1 : Hp} {p : Addr} {o u : HO} (e : Ext F H H1) (h : H1 p = some u) (m : ∀ xs, u ≠ .tup xs) (hp : p ∈ F) : Ext F H (upd H1 p o) := e.trans (Ext.write h m hp)
/-- an object that was new is written -/
theorem Ext.wrN {F : List Addr} {H H1 : Hp} {p : Addr} {o u : HO} (e : Ext F H H1) (h : H1 p = some u) (m : ∀ xs, u ≠ .tup xs) (n : H p = none) : Ext F H (upd H1 p o) :=
  ⟨fun a v q z => (by rw [upd_ne (ne_of_none q n)]; exact e.keep a v q z), fun a xs q => (by rw [upd_ne (ne_of_none q n)]; exact e.tups a xs q)⟩
theorem Ext.add {F : List Addr} {H H1 H2 : Hp} (e : Ext F H H1) (a : Ext [] H1 H2) : Ext F H H2 := e.then a (fun _ h => by cases h)
/-- what is owned grows by new addresses alone -/
def Grow (H : Hp) (F F' : List Addr) : Prop := ∀ a ∈ F', a ∈ F ∨ H a = none
theorem Grow.refl (H : Hp) (F : List Addr) : Grow H F F := fun _ h => .inl h
theorem Grow.trans {H H1 : Hp} {F F1 F2 : List Addr} (a : Grow H F F1) (e : Ext F H H1) (b : Grow H1 F1 F2) : Grow H F F2 := fun c h => by
  rcases b c h with z | z
  · exact a c z
  · by_cases q : c ∈ F
    · exact .inl q
    · exact .inr (e.free z q)
def Live (H : Hp) (F : List Addr) : Prop := ∀ a ∈ F, H a ≠ none
def Apart (F G : List Addr) : Prop := ∀ a ∈ F, a ∉ G
theorem Apart.symm {F G : List Addr} (h : Apart F G) : Apart G F := fun a m n => h a n m
theorem Apart.grow {H : Hp} {F F' G : List Addr} (h : Apart F G) (g : Grow H F F') (l : Live H G) : Apart F' G := fun a m n => (g a m).elim (fun z => h a z n) fun z => l a n z
theorem Live.ext {F G : List Addr} {H H' : Hp} (l : Live H G) (e : Ext F H H') (h : Apart G F) : Live H' G := fun a m z => by
  cases q : H a with
  | none => exact l a m q
  | some o =>
    rw [e.keep a o q (h a m)] at z
    cases z

/-- a body under way: H0 its base, F what it may change of it -/
structure Run (F : List Addr) (H0 H : Hp) : Prop where
  ext : Ext F H0 H
  live : Live H F
theorem Run.start {F : List Addr} {H : Hp} (l : Live H F) : Run F H H := ⟨Ext.refl F H, l⟩
theorem Run.wr {F : List Addr} {H0 H : Hp} {a : Addr} {o u : HO} (r : Run F H0 H) (h : H a = some u) (m : ∀ xs, u ≠ .tup xs) (w : a ∈ F ∨ H0 a = none) : Run F H0 (upd H a o) := by
  refine ⟨w.elim (fun z => r.ext.wr h m z) fun z => r.ext.wrN h m z, fun b hb z => ?_⟩
  by_cases e : b = a
  · rw [e, upd_same] at z; cases z
  · rw [upd_ne e] at z; exact r.live b hb z
theorem Run.new {F : List Addr} {H0 H : Hp} {p : Addr} {o : HO} (r : Run F H0 H) (h : H p = none) : Run F H0 (upd H p o) ∧ H0 p = none ∧ p ∉ F := by
  have n : p ∉ F := fun z => r.live p z h
  refine ⟨⟨r.ext.add (Ext.new h), fun b hb z => ?_⟩, r.ext.free h n, n⟩
  have e : b ≠ p := fun y => n (y ▸ hb)
  rw [upd_ne e] at z
  exact r.live b hb z
/-- behind a call with the footprint G -/
theorem Run.call {F G : List Addr} {H0 H H' : Hp} (r : Run F H0 H) (e : Ext G H H') (g : ∀ a ∈ G, a ∈ F ∨ H0 a = none) (l : ∀ a ∈ F, a ∈ G → H' a ≠ none) : Run F H0 H' :=
  ⟨r.ext.then e g, fun a m z => by
    by_cases q : a ∈ G
    · exact l a m q z
    · cases y : H a with
      | none => exact r.live a m y
      | some o => rw [e.keep a o y q] at z; cases z⟩
theorem Run.same {F : List Addr} {H0 H H' : Hp} (r : Run F H0 H) (e : Ext [] H H') : Run F H0 H' := r.call (G := []) e (fun _ h => by cases h) fun _ _ h => by cases h
theorem Live.cons {H : Hp} {a : Addr} {o : HO} {F : List Addr} (h : H a = some o) (l : Live H F) : Live H (a :: F) := fun b m z => by
  rcases List.mem_cons.mp m with e | e
  · rw [e, h] at z; cases z
  · exact l b e z
theorem Live.nil {H : Hp} : Live H [] := fun _ m => by cases m

/-! ### forms of one's own: fields -/
/-- e.f, e an instance of the class at C -/
def tFldC (C : Addr) (f : Str) (ta : TE) : TE := fun σ H Q => ta σ H fun x H1 => ∃ a dx fs v, x = .ref a ∧ H1 a = some (.ins C dx fs) ∧ fs.lookup f = some v ∧ Q v H1
def sFldC (C : Addr) (f : Str) (ta tv : TE) : TS := fun D σ H => tv σ H fun y H1 => ta σ H1 fun x H2 => ∃ a dx fs, x = .ref a ∧ H2 a = some (.ins C dx fs) ∧ fs.length < 1000 ∧ D.nx σ (upd H2 a (.ins C dx (putF f y fs)))
section
variable {X : Cx} {o e value : Expr} {f : Str} {C : Addr} {pos pos' : Pos} {ta tv : TE}
theorem pe_fldC (c : Cls X.K C) (n : NoAttr X.K C f) (he : PE X e ta) (hb : attributeBase e f X.env (eval e X.env) = eval e X.env := by rfl) : PE X (.Attribute e f pos) (tFldC C f ta) := by
  constructor
  intro pins s σ H Q I h
  refine attr_of hb (thn (he.run pins s σ H _ I h) fun u s1 hh => ?_)
  obtain ⟨x, H1, I1, rx, a, dx, fs, v, ex, ea, l, q⟩ := hh
  subst ex
  obtain rfl : u = Value.ref a := rx
  exact getattr_ok I1 ea c n l fun u' s2 I2 ru => ⟨v, H1, I2, ru, q⟩
theorem ps_fldC (c : Cls X.K C) (n : NoAttr X.K C f) (ha : PE X o ta) (hv : PE X value tv) (hs : swapsWith value (some (.Attribute o f pos')) pos.line X.env = pure false := by rfl) :
    PS X (.Assign [.Attribute o f pos'] value pos) (sFldC C f ta tv) := by
  constructor
  intro pins s σ H D I h
  refine plainObj_wpAny_Assign_Attribute (thn (hv.run pins s σ H _ I h) fun u s1 hh => ?_) hs
  obtain ⟨y, H1, I1, ry, q⟩ := hh
  refine thn (ha.run pins s1 σ H1 _ I1 q) fun ov s2 h2 => ?_
  obtain ⟨x, H2, I2, rx, a, dx, fs, ex, ea, l, q2⟩ := h2
  subst ex
  obtain rfl : ov = Value.ref a := rx
  exact setattr_ok I2 ea c n l ry fun s3 I3 => ⟨σ, _, I3, q2⟩
end

/-! ### operators by names -/
def rIadd : R2 := rI0 fun i j => .int (i + j)
def rIsub : R2 := rI0 fun i j => .int (i - j)
def rImul : R2 := rI CMul fun i j => .int (i * j)
def rImod : R2 := rI (fun _ j => 0 < j) fun i j => .int (i % j)
def rIdiv : R2 := rI CDiv fun i j => .int (i / j)
def rIpow : R2 := rI CPow fun i j => .int (i ^ j.toNat)
def rIlt : R2 := rI0 fun i j => .bl (decide (i < j))
def rIle : R2 := rI0 fun i j => .bl (decide (i ≤ j))
def rIgt : R2 := rI0 fun i j => .bl (decide (j < i))
def rIge : R2 := rI0 fun i j => .bl (decide (j ≤ i))
def rIeq : R2 := rI0 fun i j => .bl (decide (i = j))
def rIne : R2 := rI0 fun i j => .bl (!decide (i = j))
def rSeq : R2 := fun x y H Q => ∃ a b, x = .str a ∧ y = .str b ∧ Q (.bl (decide (a = b))) H
def rSne : R2 := fun x y H Q => ∃ a b, x = .str a ∧ y = .str b ∧ Q (.bl (!decide (a = b))) H
def rSadd : R2 := fun x y H Q => ∃ i j, x = .str i ∧ y = .str j ∧ i.length + j.length ≤ sizeLine ∧ Q (.str (i ++ j)) H
def rNis : R2 := fun x y H Q => y = .non ∧ Q (.bl (decide (x = .non))) H
def rNno : R2 := fun x y H Q => y = .non ∧ Q (.bl (!decide (x = .non))) H
def rBne : R2 := fun x y H Q => ∃ a b, x = .bl a ∧ y = .bl b ∧ Q (.bl (!decide (a = b))) H
section
variable {X : Cx}
theorem oIadd : OpR X (binaryOp .Add) rIadd := op_add
theorem oIsub : OpR X (binaryOp .Sub) rIsub := op_sub
theorem oImul : OpR X (binaryOp .Mult) rImul := op_mul
theorem oImod : OpR X (binaryOp .Mod) rImod := op_mod
theorem oIdiv : OpR X (binaryOp .FloorDiv) rIdiv := op_fdiv
theorem oIpow : OpR X (binaryOp .Pow) rIpow := op_pow
theorem oIlt : OpR X (compareOp .Lt) rIlt := op_lt
theorem oIle : OpR X (compareOp .LtE) rIle := op_le
theorem oIgt : OpR X (compareOp .Gt) rIgt := op_gt
theorem oIge : OpR X (compareOp .GtE) rIge := op_ge
theorem oSadd : OpR X (binaryOp .Add) rSadd := op_add_str
theorem oNis : OpR X (compareOp .Is) rNis := op_isN
theorem oNno : OpR X (compareOp .IsNot) rNno := op_notN
theorem dint (i j : Int) : decide (V.int i = V.int j) = decide (i = j) := by simp
theorem dstr (i j : Str) : decide (V.str i = V.str j) = decide (i = j) := by simp
theorem dbl (i j : Bool) : decide (V.bl i = V.bl j) = decide (i = j) := by simp
theorem oIeq : OpR X (compareOp .Eq) rIeq := fun pins s σ H x y v u Q I rx ry ⟨i, j, ex, ey, q⟩ => op_eq pins s σ H x y v u Q I rx ry (by subst ex; subst ey; exact ⟨rfl, by rw [dint]; exact q⟩)
theorem oIne : OpR X (compareOp .NotEq) rIne := fun pins s σ H x y v u Q I rx ry ⟨i, j, ex, ey, q⟩ => op_ne pins s σ H x y v u Q I rx ry (by subst ex; subst ey; exact ⟨rfl, by rw [dint]; exact q⟩)
theorem oSeq : OpR X (compareOp .Eq) rSeq := fun pins s σ H x y v u Q I rx ry ⟨i, j, ex, ey, q⟩ => op_eq pins s σ H x y v u Q I rx ry (by subst ex; subst ey; exact ⟨rfl, by rw [dstr]; exact q⟩)
theorem oSne : OpR X (compareOp .NotEq) rSne := fun pins s σ H x y v u Q I rx ry ⟨i, j, ex, ey, q⟩ => op_ne pins s σ H x y v u Q I rx ry (by subst ex; subst ey; exact ⟨rfl, by rw [dstr]; exact q⟩)
theorem oBne : OpR X (compareOp .NotEq) rBne := fun pins s σ H x y v u Q I rx ry ⟨i, j, ex, ey, q⟩ => op_ne pins s σ H x y v u Q I rx ry (by subst ex; subst ey; exact ⟨rfl, by rw [dbl]; exact q⟩)
end

/-! ### steps of a reading -/
section
variable {K : PySem.W.Frag} {nx bk ct : St → Hp → Prop} {rt : VK} {σ : St} {H : Hp} {Q : VK} {t u : TS} {ta tb te tv td ty : TE} {tt tu : TT} {R : Bool → Hp → Prop} {i : Nat} {v x y : V} {r : R2} {ra : List V → Hp → VK → Prop} {as : TA}
  {S : List V → Hp → Prop} {C p : Addr} {f m : Str} {o : HO}
theorem k_seq (h : t ⟨u ⟨nx, rt, bk, ct⟩, rt, bk, ct⟩ σ H) : tSeq t u ⟨nx, rt, bk, ct⟩ σ H := h
theorem k_next (h : nx σ H) : tNext ⟨nx, rt, bk, ct⟩ σ H := h
theorem k_asg (h : te σ H fun v H1 => nx (σ.set i (some v)) H1) : tAsg te (gName i) ⟨nx, rt, bk, ct⟩ σ H := h
theorem k_ret (h : te σ H rt) : tRet te ⟨nx, rt, bk, ct⟩ σ H := h
theorem k_retN (h : rt .non H) : tRetN ⟨nx, rt, bk, ct⟩ σ H := h
theorem k_drop (h : te σ H fun _ H1 => nx σ H1) : tDrop te ⟨nx, rt, bk, ct⟩ σ H := h
theorem k_ifS (h : tt σ H fun b H1 => if b = true then t ⟨nx, rt, bk, ct⟩ σ H1 else u ⟨nx, rt, bk, ct⟩ σ H1) : tIfS tt t u ⟨nx, rt, bk, ct⟩ σ H := h
theorem k_var (h : σ[i]? = some (some v)) (q : Q v H) : tVar i σ H Q := ⟨v, h, q⟩
theorem k_c (q : Q v H) : tC v σ H Q := q
theorem k_op (h : ta σ H fun x H1 => tb σ H1 fun y H2 => r x y H2 Q) : tOp r ta tb σ H Q := h
def LNeg (x : V) (H : Hp) (Q : VK) : Prop := ∃ i, x = .int i ∧ Q (.int (-i)) H
theorem l_neg {i : Int} (q : Q (.int (-i)) H) : LNeg (.int i) H Q := ⟨i, rfl, q⟩
theorem k_neg (h : ta σ H fun x H1 => LNeg x H1 Q) : tUn (rU fun i => .int (-i)) ta σ H Q := h
theorem k_negc {i : Int} (q : Q (.int (-i)) H) : tUn (rU fun i => .int (-i)) (tC (.int i)) σ H Q := ⟨i, rfl, q⟩
theorem k_cb (h : as σ H fun vs H1 => ra vs H1 Q) : tCB ra as σ H Q := h
theorem k_nil (h : S [] H) : tNil σ H S := h
theorem k_cons {ar : TA} (h : te σ H fun x H1 => ar σ H1 fun xs H2 => S (x :: xs) H2) : tCons te ar σ H S := h
theorem k_test (h : te σ H fun x H1 => ∃ k, x = .bl k ∧ R k H1) : tTest te σ H R := h
theorem k_B (h : te σ H fun x H1 => ∃ k, x = .bl k ∧ R k H1) : tB te σ H R := h
theorem k_not (h : tt σ H fun c H1 => R (!c) H1) : tNot tt σ H R := h
theorem k_and (h : tt σ H fun c H1 => if c = true then tu σ H1 R else R false H1) : tAnd tt tu σ H R := h
theorem k_or (h : tt σ H fun c H1 => if c = true then R true H1 else tu σ H1 R) : tOr tt tu σ H R := h
theorem k_notV (h : ta σ H fun x H1 => ∃ c, x = .bl c ∧ Q (.bl (!c)) H1) : tNotV ta σ H Q := h
theorem k_andV (h : ta σ H fun x H1 => ∃ c, x = .bl c ∧ if c = true then tb σ H1 Q else Q (.bl false) H1) : tAndV ta tb σ H Q := h
theorem k_orV (h : ta σ H fun x H1 => ∃ c, x = .bl c ∧ if c = true then Q (.bl true) H1 else tb σ H1 Q) : tOrV ta tb σ H Q := h
theorem k_bl {b : Bool} {P : Bool → Prop} (h : P b) : ∃ c, V.bl b = V.bl c ∧ P c := ⟨b, rfl, h⟩
-- values
theorem k_add {i j : Int} (q : Q (.int (i + j)) H) : rIadd (.int i) (.int j) H Q := ⟨i, j, rfl, rfl, q⟩
theorem k_sub {i j : Int} (q : Q (.int (i - j)) H) : rIsub (.int i) (.int j) H Q := ⟨i, j, rfl, rfl, q⟩
theorem k_mul {i j : Int} (h : CMul i j) (q : Q (.int (i * j)) H) : rImul (.int i) (.int j) H Q := ⟨i, j, rfl, rfl, h, q⟩
theorem k_mod {i j : Int} (h : 0 < j) (q : Q (.int (i % j)) H) : rImod (.int i) (.int j) H Q := ⟨i, j, rfl, rfl, h, q⟩
theorem k_div {i j : Int} (h : CDiv i j) (q : Q (.int (i / j)) H) : rIdiv (.int i) (.int j) H Q := ⟨i, j, rfl, rfl, h, q⟩
theorem k_pow {i j : Int} (h : CPow i j) (q : Q (.int (i ^ j.toNat)) H) : rIpow (.int i) (.int j) H Q := ⟨i, j, rfl, rfl, h, q⟩
theorem k_p6 (q : Q (.int 1000000) H) : rIpow (.int 10) (.int 6) H Q := ⟨10, 6, rfl, rfl, ⟨by decide, by decide, by decide⟩, q⟩
theorem k_p9 (q : Q (.int 1000000000) H) : rIpow (.int 10) (.int 9) H Q := ⟨10, 9, rfl, rfl, ⟨by decide, by decide, by decide⟩, q⟩
theorem k_p12 (q : Q (.int 1000000000000) H) : rIpow (.int 10) (.int 12) H Q := ⟨10, 12, rfl, rfl, ⟨by decide, by decide, by decide⟩, q⟩
theorem k_p13 (q : Q (.int 10000000000000) H) : rIpow (.int 10) (.int 13) H Q := ⟨10, 13, rfl, rfl, ⟨by decide, by decide, by decide⟩, q⟩
theorem k_p18 (q : Q (.int 1000000000000000000) H) : rIpow (.int 10) (.int 18) H Q := ⟨10, 18, rfl, rfl, ⟨by decide, by decide, by decide⟩, q⟩
theorem k_p30 (q : Q (.int 1000000000000000000000000000000) H) : rIpow (.int 10) (.int 30) H Q := ⟨10, 30, rfl, rfl, ⟨by decide, by decide, by decide⟩, q⟩
theorem k_lt {i j : Int} (q : Q (.bl (decide (i < j))) H) : rIlt (.int i) (.int j) H Q := ⟨i, j, rfl, rfl, q⟩
theorem k_le {i j : Int} (q : Q (.bl (decide (i ≤ j))) H) : rIle (.int i) (.int j) H Q := ⟨i, j, rfl, rfl, q⟩
theorem k_gt {i j : Int} (q : Q (.bl (decide (j < i))) H) : rIgt (.int i) (.int j) H Q := ⟨i, j, rfl, rfl, q⟩
theorem k_ge {i j : Int} (q : Q (.bl (decide (j ≤ i))) H) : rIge (.int i) (.int j) H Q := ⟨i, j, rfl, rfl, q⟩
theorem k_eq {i j : Int} (q : Q (.bl (decide (i = j))) H) : rIeq (.int i) (.int j) H Q := ⟨i, j, rfl, rfl, q⟩
theorem k_ne {i j : Int} (q : Q (.bl (!decide (i = j))) H) : rIne (.int i) (.int j) H Q := ⟨i, j, rfl, rfl, q⟩
theorem k_seqS {i j : Str} (q : Q (.bl (decide (i = j))) H) : rSeq (.str i) (.str j) H Q := ⟨i, j, rfl, rfl, q⟩
theorem k_neS {i j : Str} (q : Q (.bl (!decide (i = j))) H) : rSne (.str i) (.str j) H Q := ⟨i, j, rfl, rfl, q⟩
theorem k_neB {i j : Bool} (q : Q (.bl (!decide (i = j))) H) : rBne (.bl i) (.bl j) H Q := ⟨i, j, rfl, rfl, q⟩
theorem k_addS {i j : Str} (h : i.length + j.length ≤ sizeLine) (q : Q (.str (i ++ j)) H) : rSadd (.str i) (.str j) H Q := ⟨i, j, rfl, rfl, h, q⟩
theorem k_isN (q : Q (.bl (decide (x = .non))) H) : rNis x .non H Q := ⟨rfl, q⟩
theorem k_noN (q : Q (.bl (!decide (x = .non))) H) : rNno x .non H Q := ⟨rfl, q⟩
-- fields
def LFld (C : Addr) (f : Str) (x : V) (H : Hp) (Q : VK) : Prop := ∃ a dx fs v, x = .ref a ∧ H a = some (.ins C dx fs) ∧ fs.lookup f = some v ∧ Q v H
theorem k_fld (h : ta σ H fun x H1 => LFld C f x H1 Q) : tFldC C f ta σ H Q := h
theorem l_fld {a dx : Addr} {fs : List (Str × V)} (h : H a = some (.ins C dx fs)) (l : fs.lookup f = some v) (q : Q v H) : LFld C f (.ref a) H Q := ⟨a, dx, fs, v, rfl, h, l, q⟩
def LFldS (C : Addr) (f : Str) (y x : V) (H : Hp) (R : Hp → Prop) : Prop := ∃ a dx fs, x = .ref a ∧ H a = some (.ins C dx fs) ∧ fs.length < 1000 ∧ R (upd H a (.ins C dx (putF f y fs)))
theorem k_fldS (h : tv σ H fun y H1 => ta σ H1 fun x H2 => LFldS C f y x H2 fun H3 => nx σ H3) : sFldC C f ta tv ⟨nx, rt, bk, ct⟩ σ H := h
theorem l_fldS {F : List Addr} {H0 : Hp} {a dx : Addr} {fs fs' : List (Str × V)} {R : Hp → Prop} (r : Run F H0 H) (h : H a = some (.ins C dx fs)) (z : fs.length < 1000) (e : putF f y fs = fs') (w : a ∈ F ∨ H0 a = none)
    (q : ∀ H', Run F H0 H' → H' a = some (.ins C dx fs') → (∀ b, b ≠ a → H' b = H b) → R H') : LFldS C f y (.ref a) H R :=
  ⟨a, dx, fs, rfl, h, z, by rw [e]; exact q _ (r.wr h (by intro _ z; cases z) w) upd_same fun b n => upd_ne n⟩
/-- an object whose method is called -/
def LIns (C : Addr) (m : Str) (x : V) (H : Hp) (P : Prop) : Prop := ∃ a dx fs, x = .ref a ∧ H a = some (.ins C dx fs) ∧ fs.lookup m = none ∧ P
theorem l_ins {a dx : Addr} {fs : List (Str × V)} {P : Prop} (h : H a = some (.ins C dx fs)) (l : fs.lookup m = none) (q : P) : LIns C m (.ref a) H P := ⟨a, dx, fs, rfl, h, l, q⟩
theorem k_methS {sp : Sp} {E : St → XK} (h : ta σ H fun x H1 => LIns C m x H1 (as σ H1 fun vs H2 => sp (x :: vs) H2 Q (E σ))) : tMethS C m sp E ta as σ H Q := h
theorem k_meth0 {sp : Sp} {E : St → XK} (h : ta σ H fun x H1 => LIns C m x H1 (sp [x] H1 Q (E σ))) : tMeth0 C m sp E ta σ H Q := h
theorem k_callS {sp : Sp} {E : St → XK} (h : as σ H fun vs H1 => sp vs H1 Q (E σ)) : tCallS sp E as σ H Q := h
theorem k_callE {sp : SpE} {a : Addr} {c : Value} {d : Option Addr} (h : as σ H fun vs H1 => sp a c d vs H1 Q E0) : tCallE sp a c d as σ H Q := h
-- dicts
def LDGet (x y : V) (H : Hp) (Q : VK) : Prop := ∃ a v, x = .ref a ∧ DGet H a y (some v) ∧ Q v H
theorem k_dget (h : td σ H fun x H1 => ty σ H1 fun y H2 => LDGet x y H2 Q) : tDGet td ty σ H Q := h
def LDIn (y x : V) (H : Hp) (Q : VK) : Prop := ∃ a o, x = .ref a ∧ DGet H a y o ∧ Q (.bl o.isSome) H
theorem k_din (h : ty σ H fun y H1 => td σ H1 fun x H2 => LDIn y x H2 Q) : tDIn ty td σ H Q := h
def LDNotIn (y x : V) (H : Hp) (Q : VK) : Prop := ∃ a o, x = .ref a ∧ DGet H a y o ∧ Q (.bl (!o.isSome)) H
theorem k_dnotin (h : ty σ H fun y H1 => td σ H1 fun x H2 => LDNotIn y x H2 Q) : tDNotIn ty td σ H Q := h
def LDPut (v x y : V) (H : Hp) (R : Hp → Prop) : Prop := ∃ a H4, x = .ref a ∧ DPut H a y v H4 ∧ R H4
theorem k_dput (h : tv σ H fun v H1 => td σ H1 fun x H2 => ty σ H2 fun y H3 => LDPut v x y H3 fun H4 => nx σ H4) : sDPut td ty tv ⟨nx, rt, bk, ct⟩ σ H := h
def LIsD (x : V) (H : Hp) (P : Addr → Prop) : Prop := ∃ a, x = .ref a ∧ IsD H a ∧ P a
def LDPop (a : Addr) (y : V) (H : Hp) (Q : VK) : Prop := ∃ kvs k v, H a = some (.dK kvs) ∧ y = kV k ∧ valV kvs k = some v ∧ Q v (upd H a (.dK (dropK kvs k)))
theorem k_dpop (h : td σ H fun x H1 => LIsD x H1 fun a => ty σ H1 fun y H2 => LDPop a y H2 Q) : tDPop1 td ty σ H Q := h
def LDGet2 (a : Addr) (y z : V) (H : Hp) (Q : VK) : Prop := ∃ o, DGet H a y o ∧ Q (o.getD z) H
theorem k_dget2 (h : td σ H fun x H1 => LIsD x H1 fun a => ty σ H1 fun y H2 => te σ H2 fun z H3 => LDGet2 a y z H3 Q) : tDGet2 td ty te σ H Q := h
theorem l_dgetI {a : Addr} {kvs : List (Key × V)} {n : Int} (h : H a = some (.dK kvs)) (e : valV kvs (Sum.inl n : Key) = some v) (q : Q v H) : LDGet (.ref a) (.int n) H Q := ⟨a, v, rfl, by rw [← e]; exact DGet.k (k := Sum.inl n) h, q⟩
theorem l_dgetS {a : Addr} {kvs : List (Key × V)} {n : Str} (h : H a = some (.dK kvs)) (e : valV kvs (Sum.inr n : Key) = some v) (q : Q v H) : LDGet (.ref a) (.str n) H Q := ⟨a, v, rfl, by rw [← e]; exact DGet.k (k := Sum.inr n) h, q⟩
theorem l_dgetIF {a : Addr} {kvs : List (Key × V)} {n : Int} {ob : Obj} (h : H a = some (.frz ob (.dK kvs))) (e : valV kvs (Sum.inl n : Key) = some v) (q : Q v H) : LDGet (.ref a) (.int n) H Q := ⟨a, v, rfl, .inl ⟨kvs, .inl n, .inr ⟨ob, h⟩, rfl, e.symm⟩, q⟩
theorem l_dgetSF {a : Addr} {kvs : List (Key × V)} {n : Str} {ob : Obj} (h : H a = some (.frz ob (.dK kvs))) (e : valV kvs (Sum.inr n : Key) = some v) (q : Q v H) : LDGet (.ref a) (.str n) H Q := ⟨a, v, rfl, .inl ⟨kvs, .inr n, .inr ⟨ob, h⟩, rfl, e.symm⟩, q⟩
theorem l_dinI {a : Addr} {kvs : List (Key × V)} {n : Int} (h : H a = some (.dK kvs)) (q : Q (.bl (valV kvs (Sum.inl n : Key)).isSome) H) : LDIn (.int n) (.ref a) H Q := ⟨a, _, rfl, DGet.k (k := Sum.inl n) h, q⟩
theorem l_dinS {a : Addr} {kvs : List (Key × V)} {n : Str} (h : H a = some (.dK kvs)) (q : Q (.bl (valV kvs (Sum.inr n : Key)).isSome) H) : LDIn (.str n) (.ref a) H Q := ⟨a, _, rfl, DGet.k (k := Sum.inr n) h, q⟩
theorem l_dnotinI {a : Addr} {kvs : List (Key × V)} {n : Int} (h : H a = some (.dK kvs)) (q : Q (.bl (!(valV kvs (Sum.inl n : Key)).isSome)) H) : LDNotIn (.int n) (.ref a) H Q := ⟨a, _, rfl, DGet.k (k := Sum.inl n) h, q⟩
theorem l_dnotinS {a : Addr} {kvs : List (Key × V)} {n : Str} (h : H a = some (.dK kvs)) (q : Q (.bl (!(valV kvs (Sum.inr n : Key)).isSome)) H) : LDNotIn (.str n) (.ref a) H Q := ⟨a, _, rfl, DGet.k (k := Sum.inr n) h, q⟩
theorem l_dputI {F : List Addr} {H0 : Hp} {a : Addr} {kvs kvs' : List (Key × V)} {n : Int} {R : Hp → Prop} (r : Run F H0 H) (h : H a = some (.dK kvs)) (z : kvs.length < sizeLine) (e : putK kvs (Sum.inl n : Key) v = kvs') (w : a ∈ F ∨ H0 a = none)
    (q : ∀ H', Run F H0 H' → H' a = some (.dK kvs') → (∀ b, b ≠ a → H' b = H b) → R H') : LDPut v (.ref a) (.int n) H R :=
  ⟨a, _, rfl, DPut.k (k := Sum.inl n) h z, q _ (r.wr h (by intro _ z; cases z) w) (by rw [← e]; exact upd_same) fun b n => upd_ne n⟩
theorem l_dputS {F : List Addr} {H0 : Hp} {a : Addr} {kvs kvs' : List (Key × V)} {n : Str} {R : Hp → Prop} (r : Run F H0 H) (h : H a = some (.dK kvs)) (z : kvs.length < sizeLine) (e : putK kvs (Sum.inr n : Key) v = kvs') (w : a ∈ F ∨ H0 a = none)
    (q : ∀ H', Run F H0 H' → H' a = some (.dK kvs') → (∀ b, b ≠ a → H' b = H b) → R H') : LDPut v (.ref a) (.str n) H R :=
  ⟨a, _, rfl, DPut.k (k := Sum.inr n) h z, q _ (r.wr h (by intro _ z; cases z) w) (by rw [← e]; exact upd_same) fun b n => upd_ne n⟩
theorem l_isD {a : Addr} {kvs : List (Key × V)} {P : Addr → Prop} (h : H a = some (.dK kvs)) (q : P a) : LIsD (.ref a) H P := ⟨a, rfl, .inl ⟨kvs, .inl h⟩, q⟩
theorem l_dpopI {F : List Addr} {H0 : Hp} {a : Addr} {kvs kvs' : List (Key × V)} {n : Int} (r : Run F H0 H) (h : H a = some (.dK kvs)) (e : valV kvs (Sum.inl n : Key) = some v) (e2 : dropK kvs (Sum.inl n : Key) = kvs') (w : a ∈ F ∨ H0 a = none)
    (q : ∀ H', Run F H0 H' → H' a = some (.dK kvs') → (∀ b, b ≠ a → H' b = H b) → Q v H') : LDPop a (.int n) H Q :=
  ⟨kvs, Sum.inl n, v, h, rfl, e, q _ (r.wr h (by intro _ z; cases z) w) (by rw [← e2]; exact upd_same) fun b n => upd_ne n⟩
theorem l_dpopS {F : List Addr} {H0 : Hp} {a : Addr} {kvs kvs' : List (Key × V)} {n : Str} (r : Run F H0 H) (h : H a = some (.dK kvs)) (e : valV kvs (Sum.inr n : Key) = some v) (e2 : dropK kvs (Sum.inr n : Key) = kvs') (w : a ∈ F ∨ H0 a = none)
    (q : ∀ H', Run F H0 H' → H' a = some (.dK kvs') → (∀ b, b ≠ a → H' b = H b) → Q v H') : LDPop a (.str n) H Q :=
  ⟨kvs, Sum.inr n, v, h, rfl, e, q _ (r.wr h (by intro _ z; cases z) w) (by rw [← e2]; exact upd_same) fun b n => upd_ne n⟩
theorem l_dget2S {a : Addr} {kvs : List (Key × V)} {n : Str} (h : H a = some (.dK kvs)) (q : Q ((valV kvs (Sum.inr n : Key)).getD x) H) : LDGet2 a (.str n) x H Q := ⟨_, DGet.k (k := Sum.inr n) h, q⟩
-- new lists, tuples
def LNew (o : HO) (H : Hp) (Q : VK) : Prop := ∀ p, H p = none → Q (.ref p) (upd H p o)
def LTup (vs : List V) (H : Hp) (Q : VK) : Prop := vs.length ≤ sizeLine ∧ LNew (.tup vs) H Q
def LLst (vs : List V) (H : Hp) (Q : VK) : Prop := vs.length ≤ sizeLine ∧ LNew (.lst vs) H Q
theorem k_tup (h : as σ H fun vs H1 => LTup vs H1 Q) : tTup as σ H Q := h
theorem k_lst (h : as σ H fun vs H1 => LLst vs H1 Q) : tLst as σ H Q := h
theorem l_tup {vs : List V} (z : vs.length ≤ 1000) (q : LNew (.tup vs) H Q) : LTup vs H Q := ⟨Nat.le_trans z (by decide), q⟩
theorem l_lst {vs : List V} (z : vs.length ≤ 1000) (q : LNew (.lst vs) H Q) : LLst vs H Q := ⟨Nat.le_trans z (by decide), q⟩
theorem k_dnew (q : LNew (.dK []) H Q) : tDNewK σ H Q := q
/-- a new object: the heap behind it by what is known of it -/
theorem l_new {F : List Addr} {H0 : Hp} (r : Run F H0 H) (q : ∀ p H', H0 p = none → p ∉ F → H p = none → Run F H0 H' → H' p = some o → Same H H' → Q (.ref p) H') : LNew o H Q := fun p hp =>
  let ⟨r1, r2, r3⟩ := r.new hp
  q p _ r2 r3 hp r1 upd_same (fun a u e => by rw [upd_ne (ne_of_none e hp)]; exact e)
/-- xs.append(e) -/
theorem k_append {K : PySem.W.Frag} (h : ta σ H fun x H1 => tyV K "list" x H1 ∧ as σ H1 fun xs H2 => rAppend x xs H2 Q) : tBM K "list" rAppend ta as σ H Q := h
theorem l_tyL {K : PySem.W.Frag} {a : Addr} {xs : List V} {P : Prop} (h : H a = some (.lst xs)) (q : P) : tyV K "list" (.ref a) H ∧ P := ⟨.inl ⟨rfl, xs, SqL.of h⟩, q⟩
theorem l_append {F : List Addr} {H0 : Hp} {a : Addr} {xs : List V} (r : Run F H0 H) (h : H a = some (.lst xs)) (z : xs.length < sizeLine) (w : a ∈ F ∨ H0 a = none)
    (q : ∀ H', Run F H0 H' → H' a = some (.lst (xs ++ [v])) → (∀ b, b ≠ a → H' b = H b) → Q .non H') : rAppend (.ref a) [v] H Q :=
  ⟨a, xs, v, rfl, rfl, h, z, q _ (r.wr h (by intro _ z; cases z) w) upd_same fun b n => upd_ne n⟩
-- items
def LIxL (K : PySem.W.Frag) (x y : V) (H : Hp) (Q : VK) : Prop := rIxL K x y H Q
theorem l_ixL {a : Addr} {xs : List V} {n : Int} (h : SqL K H a xs) (e : atI xs n = some v) (q : Q v H) : rIxL K (.ref a) (.int n) H Q := ⟨a, xs, n, v, rfl, rfl, h, e, q⟩
theorem l_ixT {a : Addr} {xs : List V} {n : Int} (h : SqT K H a xs) (e : atI xs n = some v) (q : Q v H) : rIxT K (.ref a) (.int n) H Q := ⟨a, xs, n, v, rfl, rfl, h, e, q⟩
theorem k_ift {A B : Prop} (h : A) : if true = true then A else B := by rw [if_pos rfl]; exact h
theorem k_iff {A B : Prop} (h : B) : if false = true then A else B := by rw [if_neg Bool.false_ne_true]; exact h
theorem k_if {b : Bool} {A B : Prop} (h1 : b = true → A) (h0 : b = false → B) : if b = true then A else B := by
  cases b with
  | true => exact k_ift (h1 rfl)
  | false => exact k_iff (h0 rfl)
/-- a test on a proposition -/
theorem k_ifd {p : Prop} [Decidable p] {A B : Prop} (h1 : p → A) (h0 : ¬ p → B) : if decide p = true then A else B := k_if (fun e => h1 (of_decide_eq_true e)) fun e => h0 (of_decide_eq_false e)
theorem k_ifnd {p : Prop} [Decidable p] {A B : Prop} (h1 : ¬ p → A) (h0 : p → B) : if (!decide p) = true then A else B := by
  by_cases h : p
  · rw [decide_eq_true h]
    exact k_iff (h0 h)
  · rw [decide_eq_false h]
    exact k_ift (h1 h)
-- constructors
theorem k_makeS {sp : Sp} {E : St → XK} (h : as σ H fun vs H1 => LMake C (fun x => .ref x :: vs) sp H1 Q (E σ)) : tMakeS C sp E as σ H Q := h
theorem k_makeG {sp : Sp} {n m : Nat} {gV : List V → List V → List V} {E : St → XK} {tk : TA} (h : as σ H fun vs H1 => tk σ H1 fun zs H2 => vs.length = n ∧ zs.length = m ∧ LMake C (fun x => gV (.ref x :: vs) zs) sp H2 Q (E σ)) : tMakeG C n m sp gV E as tk σ H Q := h
theorem l_make {F : List Addr} {H0 : Hp} {as : Addr → List V} {sp : Sp} {E : XK} (r : Run F H0 H)
    (q : ∀ x dx H', H0 x = none → x ∉ F → H x = none → Run F H0 H' → H' x = some (.ins C dx []) → Same H H' → sp (as x) H' (fun v H2 => v = .non ∧ Q (.ref x) H2) E) : LMake C as sp H Q E := fun x dx hx hd ne => by
  have s1 : Same H (upd H dx (.own x)) := fun a u e => by rw [upd_ne (ne_of_none e hd)]; exact e
  have hx1 : upd H dx (.own x) x = none := (upd_ne ne.symm).trans hx
  have s2 : Same (upd H dx (.own x)) (upd (upd H dx (.own x)) x (.ins C dx [])) := fun a u e => by rw [upd_ne (ne_of_none e hx1)]; exact e
  obtain ⟨ra, _, _⟩ := r.new (o := .own x) hd
  obtain ⟨rb, f1, f2⟩ := ra.new (o := .ins C dx []) hx1
  exact q x dx _ f1 f2 hx rb upd_same (fun a u e => s2 a u (s1 a u e))
theorem k_made {p : Addr} (q : Q (.ref p) H) : V.non = .non ∧ Q (.ref p) H := ⟨rfl, q⟩
end
end LW
namespace LW
open PySem L2
theorem hf_n {H H' : Hp} {a b : Addr} {o : HO} (n : ∀ b, b ≠ a → H' b = H b) (h : H b = some o) (ne : b ≠ a) : H' b = some o := (n b ne).trans h
theorem hf_s {H H' : Hp} {b : Addr} {o : HO} (s : Same H H') (h : H b = some o) : H' b = some o := s b o h
theorem hf_e {F : List Addr} {H H' : Hp} {b : Addr} {o : HO} (s : Ext F H H') (h : H b = some o) (n : b ∉ F) : H' b = some o := s.keep b o h n
theorem notin_nil {a : Addr} : a ∉ ([] : List Addr) := List.not_mem_nil
theorem notin_cons {a b : Addr} {l : List Addr} (h : a ≠ b) (n : a ∉ l) : a ∉ b :: l := fun z => (List.mem_cons.mp z).elim h n
end LW

set_option maxHeartbeats 4000000
namespace LW
open PySem PySem.Spec PyProof.Rows L2
theorem tkd {P : Program} {w : World} {K : PySem.W.Frag} {mg : Str → Option Value} {base : Heap} {N : List Str} {qual : Str} {scope : Scope} {f : Addr} {cd : Value} {A : Around} {outer : List Env} {s : Shared} {H : Hp} {E : XK} :
    L2N.Takes (cxOf (L2N.CX P w) P w K mg base N qual scope f cd A outer s H E) (fun cls d _ H => E cls d H) := L2N.takes_of rfl rfl rfl rfl
theorem pod {P : Program} {w : World} {K : PySem.W.Frag} {mg : Str → Option Value} {base : Heap} {N : List Str} {qual : Str} {scope : Scope} {f : Addr} {cd : Value} {A : Around} {outer : List Env} {s : Shared} {H : Hp} {E : XK} :
    PassesOwn (model P w) (cxOf (L2N.CX P w) P w K mg base N qual scope f cd A outer s H E).A (cxOf (L2N.CX P w) P w K mg base N qual scope f cd A outer s H E).env (cxOf (L2N.CX P w) P w K mg base N qual scope f cd A outer s H E).xe :=
  L2.passes_of (X := cxOf (L2N.CX P w) P w K mg base N qual scope f cd A outer s H E) rfl
theorem tk0 {X : Cx} : L2N.Takes X (fun _ _ _ _ => False) := fun _ _ x => by
  obtain ⟨_, _, _, _, _, _, _, _, _, _, _, _, _, _, _, _, z⟩ := x
  exact z.elim

theorem pe_globI {X : Cx} {x : Str} {i : Int} {t : Tok} {pos : Pos} (hg : Gl X x) (hm : X.mg x = some (.int i t)) (hd : (x == ("__debug__" : Str)) = false := by decide) : PE X (.Name x pos) (tC (.int i)) := pe_glob hg hm ⟨_, rfl⟩ hd

/-- a built-in type by its name -/
theorem pe_bltT {X : Cx} {x : Str} {n : String} {pos : Pos} (hg : Gl X x) (hm : X.mg x = none) (hv : bootBuiltins x = some (.type n)) (hn : x ≠ "__name__" := by decide) (hd : (x == ("__debug__" : Str)) = false := by decide) : PE X (.Name x pos) (tC (.ty n)) :=
  pe_bltn hg hm hv rfl hn hd
/-! ### tuples are kept -/
def TupK (H H' : Hp) : Prop := ∀ a xs, H a = some (.tup xs) → H' a = some (.tup xs)
theorem TupK.trans {H H1 H2 : Hp} (a : TupK H H1) (b : TupK H1 H2) : TupK H H2 := fun c xs h => b c xs (a c xs h)
theorem TupK.of {F : List Addr} {H H' : Hp} (e : Ext F H H') : TupK H H' := e.tups
theorem TupK.upd {H : Hp} {p : Addr} {o : HO} (h : ∀ xs, H p ≠ some (.tup xs)) : TupK H (upd H p o) := fun a xs e => by
  rw [upd_ne fun z => h xs (by rw [← z]; exact e)]
  exact e

/-! ### for -/
section
variable {K : PySem.W.Frag} {nx bk ct : St → Hp → Prop} {rt : VK} {σ : St} {H : Hp} {Q : VK} {tb : TS} {g : TG} {te tl td : TE} {tt : TT} {ta : TA}
def LFor (K : PySem.W.Frag) (g : TG) (tb : TS) (D : Ends) (σ : St) (x : V) (H : Hp) : Prop := ∃ a, x = .ref a ∧ (∃ xs, SqL K H a xs) ∧ ∃ W : Nat → Nat → St → Hp → Prop, (∃ m, W 0 m σ H) ∧ ∀ i m σ H, W i m σ H →
  ((Itl K a).stop i H ∧ D.nx σ H) ∨ ((Itl K a).go i H ∧ ∃ N : St → Hp → Prop, (∀ σ' H', N σ' H' → ∃ m', m' < m ∧ W (i + 1) m' σ' H') ∧ ∀ x H', (Itl K a).yld i H x H' → g x σ H' fun σ2 H2 => tb { D with nx := N, ct := N, bk := D.nx } σ2 H2)
theorem k_for (h : tl σ H fun x H1 => LFor K g tb ⟨nx, rt, bk, ct⟩ σ x H1) : tFor (iList K tl) g tb ⟨nx, rt, bk, ct⟩ σ H := h
/-- over a list that stays: P ahead of turn i -/
theorem l_for {a : Addr} {xs : List V} (h : SqL K H a xs) (Pv : Nat → St → Hp → Prop) (h0 : Pv 0 σ H) (hl : ∀ i σ H, i ≤ xs.length → Pv i σ H → SqL K H a xs)
    (hs : ∀ i x σ H, xs[i]? = some x → Pv i σ H → g x σ H fun σ2 H2 => tb ⟨Pv (i + 1), rt, nx, Pv (i + 1)⟩ σ2 H2) (hd : ∀ σ H, Pv xs.length σ H → nx σ H) :
    LFor K g tb ⟨nx, rt, bk, ct⟩ σ (.ref a) H := ⟨a, rfl, ⟨xs, h⟩, for_list (D := ⟨nx, rt, bk, ct⟩) Pv h0 hl hs hd⟩
def LRng (g : TG) (tb : TS) (D : Ends) (σ : St) (lo : Int) (n : Nat) (H : Hp) : Prop := ∃ W : Nat → Nat → St → Hp → Prop, (∃ m, W 0 m σ H) ∧ ∀ i m σ H, W i m σ H →
  ((Itr lo n).stop i H ∧ D.nx σ H) ∨ ((Itr lo n).go i H ∧ ∃ N : St → Hp → Prop, (∀ σ' H', N σ' H' → ∃ m', m' < m ∧ W (i + 1) m' σ' H') ∧ ∀ x H', (Itr lo n).yld i H x H' → g x σ H' fun σ2 H2 => tb { D with nx := N, ct := N, bk := D.nx } σ2 H2)
theorem l_rng {lo : Int} {n : Nat} (Pv : Nat → St → Hp → Prop) (h0 : Pv 0 σ H)
    (hs : ∀ i σ H, i < n → Pv i σ H → g (.int (lo + i)) σ H fun σ2 H2 => tb ⟨Pv (i + 1), rt, nx, Pv (i + 1)⟩ σ2 H2) (hd : ∀ σ H, Pv n σ H → nx σ H) :
    LRng g tb ⟨nx, rt, bk, ct⟩ σ lo n H := for_range (D := ⟨nx, rt, bk, ct⟩) Pv h0 hs hd
def LRngC (g : TG) (tb : TS) (D : Ends) (σ : St) (lo c : Int) (n : Nat) (H : Hp) : Prop := ∃ W : Nat → Nat → St → Hp → Prop, (∃ m, W 0 m σ H) ∧ ∀ i m σ H, W i m σ H →
  ((Itc lo c n).stop i H ∧ D.nx σ H) ∨ ((Itc lo c n).go i H ∧ ∃ N : St → Hp → Prop, (∀ σ' H', N σ' H' → ∃ m', m' < m ∧ W (i + 1) m' σ' H') ∧ ∀ x H', (Itc lo c n).yld i H x H' → g x σ H' fun σ2 H2 => tb { D with nx := N, ct := N, bk := D.nx } σ2 H2)
/-- how many turns -/
def stepN (i j c : Int) : Nat := (Builtin.Range.rangeSize i j c).toNat
theorem stepN_eq {i j c : Int} (hc : 0 < c) : (stepN i j c : Int) = if i < j then (j - i - 1) / c + 1 else 0 := by
  unfold stepN Builtin.Range.rangeSize
  rw [if_pos hc]
  by_cases h : i < j
  · rw [if_pos h]
    have : 0 ≤ (j - i - 1) / c := Int.ediv_nonneg (by omega) (by omega)
    omega
  · rw [if_neg h]; rfl
theorem rgc_up {i j c : Int} (h1 : 0 ≤ i) (h2 : i ≤ 100000) (h3 : -100000 ≤ j) (h4 : j ≤ 100000) (h5 : 0 < c) (h6 : c ≤ 1000) : RgC i j c (stepN i j c) := by
  have e : Builtin.Range.rangeSize i j c = if i < j then (j - i - 1) / c + 1 else 0 := by
    unfold Builtin.Range.rangeSize
    rw [if_pos h5]
  have b : i < j → 0 ≤ (j - i - 1) / c ∧ (j - i - 1) / c ≤ j - i - 1 := fun h => ⟨Int.ediv_nonneg (by omega) (by omega), Int.ediv_le_self _ (by omega)⟩
  refine ⟨by omega, by omega, ?_, ?_⟩
  · unfold Builtin.Range.small
    rw [e]
    simp only [Builtin.Range.rangeFitsLong, Bool.and_eq_true, Bool.or_eq_true, decide_eq_true_eq, beq_iff_eq, h5, if_true]
    by_cases h : i < j
    · have := b h
      simp only [h, if_true]
      refine ⟨?_, ?_⟩ <;> first | omega | (refine ⟨?_, ?_⟩ <;> omega)
    · simp only [h, if_false]
      refine ⟨?_, ?_⟩ <;> first | omega | (refine ⟨?_, ?_⟩ <;> omega)
  · rw [stepN_eq h5, e]
def LR3 (g : TG) (tb : TS) (D : Ends) (σ : St) (vs : List V) (H : Hp) : Prop := ∃ (i j c : Int) (n : Nat), vs = [.int i, .int j, .int c] ∧ RgC i j c n ∧ LRngC g tb D σ i c n H
theorem k_rng3 (h : ta σ H fun vs H1 => LR3 g tb ⟨nx, rt, bk, ct⟩ σ vs H1) : tFor (iRng3 ta) g tb ⟨nx, rt, bk, ct⟩ σ H := h
theorem l_rng3 {D : Ends} {i j c : Int} (h : 0 ≤ i ∧ i ≤ 100000 ∧ -100000 ≤ j ∧ j ≤ 100000 ∧ 0 < c ∧ c ≤ 1000) (q : LRngC g tb D σ i c (stepN i j c) H) : LR3 g tb D σ [.int i, .int j, .int c] H :=
  ⟨i, j, c, _, rfl, let ⟨h1, h2, h3, h4, h5, h6⟩ := h; rgc_up h1 h2 h3 h4 h5 h6, q⟩
def LR2 (g : TG) (tb : TS) (D : Ends) (σ : St) (vs : List V) (H : Hp) : Prop := ∃ i j : Int, vs = [.int i, .int j] ∧ (-(2 ^ 62) ≤ i ∧ i < 2 ^ 62 ∧ -(2 ^ 62) ≤ j ∧ j < 2 ^ 62) ∧ LRng g tb D σ i (j - i).toNat H
theorem k_rng2 (h : ta σ H fun vs H1 => LR2 g tb ⟨nx, rt, bk, ct⟩ σ vs H1) : tFor (iRng2 ta) g tb ⟨nx, rt, bk, ct⟩ σ H := h
theorem l_rng2 {D : Ends} {i j : Int} (h : -100000 ≤ i ∧ i ≤ 100000 ∧ -100000 ≤ j ∧ j ≤ 100000) (q : LRng g tb D σ i (j - i).toNat H) : LR2 g tb D σ [.int i, .int j] H :=
  ⟨i, j, rfl, let ⟨h1, h2, h3, h4⟩ := h; ⟨by omega, by omega, by omega, by omega⟩, q⟩
def LR1 (g : TG) (tb : TS) (D : Ends) (σ : St) (vs : List V) (H : Hp) : Prop := ∃ j : Int, vs = [.int j] ∧ -(2 ^ 62) ≤ j ∧ j < 2 ^ 62 ∧ LRng g tb D σ 0 j.toNat H
theorem k_rng1 (h : ta σ H fun vs H1 => LR1 g tb ⟨nx, rt, bk, ct⟩ σ vs H1) : tFor (iRng1 ta) g tb ⟨nx, rt, bk, ct⟩ σ H := h
theorem l_rng1 {D : Ends} {j : Int} (h : -100000 ≤ j ∧ j ≤ 100000) (q : LRng g tb D σ 0 j.toNat H) : LR1 g tb D σ [.int j] H := ⟨j, rfl, by omega, by omega, q⟩
theorem l_rngC {lo c : Int} {n : Nat} (Pv : Nat → St → Hp → Prop) (h0 : Pv 0 σ H)
    (hs : ∀ i σ H, i < n → Pv i σ H → g (.int (lo + (i : Nat) * c)) σ H fun σ2 H2 => tb ⟨Pv (i + 1), rt, nx, Pv (i + 1)⟩ σ2 H2) (hd : ∀ σ H, Pv n σ H → nx σ H) :
    LRngC g tb ⟨nx, rt, bk, ct⟩ σ lo c n H := for_rangeC (D := ⟨nx, rt, bk, ct⟩) Pv h0 hs hd
theorem g_name {j : Nat} {x : V} {R : St → Hp → Prop} (h : R (σ.set j (some x)) H) : gName j x σ H R := h

/-! ### comprehensions -/
theorem sets3 (σ : St) (j : Nat) (x : Option V) : (σ.set j none).set j x = σ.set j x := by rw [List.set_set]
/-- over the keys of a dict; P i acc H: what the list holds behind i turns, by tuples alone -/
theorem lc_keys {d : Addr} {kvs : List (Key × V)} {j : Nat} (hd : H d = some (.dK kvs)) (hz : kvs.length < sizeLine)
    (htd : ∀ od (R : VK), R (.ref d) (upd H d (.frz od (.dK kvs))) → td σ (upd H d (.frz od (.dK kvs))) R)
    (P : Nat → List V → Hp → Prop) (h0 : P 0 [] H) (hP : ∀ i acc H1 H2, TupK H1 H2 → P i acc H1 → P i acc H2)
    (hs : ∀ i k v od acc H1 (R : VK) (R0 : Hp → Prop), kvs[i]? = some (k, v) → H1 d = some (.frz od (.dK kvs)) → (∀ a o, a ≠ d → H a = some o → H1 a = some o) → acc.length ≤ i → P i acc H1 →
      (∀ y H4, Ext [] H1 H4 → P (i + 1) (acc ++ [y]) H4 → R y H4) → (∀ H3, Ext [] H1 H3 → P (i + 1) acc H3 → R0 H3) →
      tt (σ.set j (some (kV k))) H1 fun b H3 => if b = true then te (σ.set j (some (kV k))) H3 R else R0 H3)
    (q : ∀ D H' acc, H D = none → Ext [] H H' → H' D = some (.lst acc) → acc.length ≤ kvs.length → P kvs.length acc H' → Q (.ref D) H') :
    tLockE (tLc (iKeys td) (gName j) tt te [j]) σ H Q := by
  refine ⟨d, .dK kvs, hd, trivial, fun od => ?_⟩
  refine htd od _ ⟨d, od, rfl, .inl ⟨kvs, upd_same, fun D hD => ?_⟩⟩
  have dD : D ≠ d := fun z => by rw [z, upd_same] at hD; cases hD
  have hD0 : H D = none := by rw [← hD, upd_ne dD]
  -- what holds ahead of turn i
  refine ⟨fun i m H1 => m = kvs.length - i ∧ i ≤ kvs.length ∧ ∃ acc, H1 D = some (.lst acc) ∧ acc.length ≤ i ∧ H1 d = some (.frz od (.dK kvs)) ∧ (∀ a o, a ≠ d → H a = some o → H1 a = some o) ∧ P i acc H1,
    ⟨kvs.length, by simp, Nat.zero_le _, [], upd_same, Nat.le_refl _, by rw [upd_ne dD.symm, upd_same], fun a o h e => ?_, hP 0 [] H _ (fun a xs e => ?_) h0⟩, ?_⟩
  · rw [upd_ne (ne_of_none e hD0), upd_ne h]
    exact e
  · rw [upd_ne (ne_of_none e hD0), upd_ne (ne_of e hd fun z => by cases z)]
    exact e
  rintro i m H1 ⟨rfl, hi, acc, hA, hl, hf, hk, p⟩
  by_cases hlt : i < kvs.length
  · refine .inr ⟨⟨hf, hlt⟩, fun H' => (i + 1 ≤ kvs.length ∧ ∃ acc, H' D = some (.lst acc) ∧ acc.length ≤ i + 1 ∧ H' d = some (.frz od (.dK kvs)) ∧ (∀ a o, a ≠ d → H a = some o → H' a = some o) ∧ P (i + 1) acc H'),
      fun H' p' => ⟨kvs.length - (i + 1), by omega, rfl, p'.1, p'.2⟩, fun x H' y => ?_⟩
    obtain ⟨e, k, v, ek, ex⟩ := y
    subst e ex
    show gName j (kV k) (wipe σ [j]) _ _
    have e1 : (wipe σ [j]).set j (some (kV k)) = σ.set j (some (kV k)) := sets3 σ j _
    have e2 : wipe ((wipe σ [j]).set j (some (kV k))) [j] = wipe σ [j] := by
      show ((σ.set j none).set j (some (kV k))).set j none = σ.set j none
      rw [List.set_set, List.set_set]
    refine ⟨e2, ?_⟩
    rw [e1]
    refine hs i k v od acc H' _ _ ek hf hk hl p (fun y H4 e4 p4 => ?_) fun H3 e3 p3 => ?_
    · have h4 : H4 D = some (.lst acc) := e4.keep _ _ hA (by simp)
      refine ⟨acc, h4, Nat.lt_of_le_of_lt hl (Nat.lt_trans hlt hz), hlt, acc ++ [y], upd_same, by rw [List.length_append]; simpa using hl, by rw [upd_ne dD.symm]; exact e4.keep _ _ hf (by simp), fun a o n e => ?_,
        hP _ _ H4 _ (TupK.upd fun xs z => by rw [h4] at z; cases z) p4⟩
      rw [upd_ne (ne_of_none e hD0)]
      exact e4.keep _ _ (hk a o n e) (by simp)
    · exact ⟨hlt, acc, e3.keep _ _ hA (by simp), Nat.le_succ_of_le hl, e3.keep _ _ hf (by simp), fun a o n e => e3.keep _ _ (hk a o n e) (by simp), p3⟩
  · have e : i = kvs.length := by omega
    subst e
    refine .inl ⟨⟨hf, Nat.le_refl _⟩, hf, q D _ acc hD0 ⟨fun a o e _ => ?_, fun a xs e => ?_⟩ ?_ (by omega) (hP _ _ H1 _ (TupK.upd fun xs z => by rw [hf] at z; cases z) p)⟩
    · by_cases z : a = d
      · rw [z, upd_same, ← hd, ← z]; exact e
      · rw [upd_ne z]; exact hk a o z e
    · have z : a ≠ d := ne_of e hd fun z => by cases z
      rw [upd_ne z]; exact hk a _ z e
    · rw [upd_ne dD]; exact hA
end
end LW

set_option maxHeartbeats 4000000
namespace LW
open PySem PySem.Spec PyProof.Rows L2
/-! ### tables as lists of pairs -/
section
variable {κ α : Type} [DecidableEq κ]
def aget (l : List (κ × α)) (k : κ) : Option α := (l.find? fun p => decide (p.1 = k)).map (·.2)
def aput (l : List (κ × α)) (k : κ) (v : α) : List (κ × α) := if (l.any fun p => decide (p.1 = k)) = true then l.map (fun p => if p.1 = k then (p.1, v) else p) else l ++ [(k, v)]
def adrop (l : List (κ × α)) (k : κ) : List (κ × α) := l.filter fun p => decide (p.1 ≠ k)
theorem aget_nil {k : κ} : aget ([] : List (κ × α)) k = none := rfl
theorem aget_cons {p : κ × α} {r : List (κ × α)} {k : κ} : aget (p :: r) k = if p.1 = k then some p.2 else aget r k := by
  unfold aget
  rw [List.find?_cons]
  by_cases h : p.1 = k
  · simp [h]
  · simp [h]
theorem aget_none {l : List (κ × α)} {k : κ} : aget l k = none ↔ k ∉ l.map (·.1) := by
  induction l with
  | nil => simp [aget_nil]
  | cons p r ih =>
    rw [aget_cons, List.map_cons, List.mem_cons]
    by_cases h : p.1 = k
    · simp [h]
    · rw [if_neg h, ih]
      constructor
      · rintro a (b | b)
        · exact h b.symm
        · exact a b
      · exact fun a b => a (.inr b)
theorem aget_some_mem {l : List (κ × α)} {k : κ} {v : α} (h : aget l k = some v) : (k, v) ∈ l := by
  induction l with
  | nil => cases h
  | cons p r ih =>
    rw [aget_cons] at h
    by_cases e : p.1 = k
    · rw [if_pos e] at h
      cases h
      subst e
      exact List.mem_cons_self
    · rw [if_neg e] at h
      exact List.mem_cons_of_mem _ (ih h)
theorem aget_of_mem {l : List (κ × α)} {k : κ} {v : α} (nd : (l.map (·.1)).Nodup) (h : (k, v) ∈ l) : aget l k = some v := by
  induction l with
  | nil => cases h
  | cons p r ih =>
    rw [List.map_cons, List.nodup_cons] at nd
    rw [aget_cons]
    rcases List.mem_cons.mp h with e | e
    · subst e; simp
    · have : ¬ p.1 = k := fun z => nd.1 (z ▸ List.mem_map.mpr ⟨(k, v), e, rfl⟩)
      rw [if_neg this]
      exact ih nd.2 e
theorem aany {l : List (κ × α)} {k : κ} : (l.any fun p => decide (p.1 = k)) = (aget l k).isSome := by
  induction l with
  | nil => rfl
  | cons p r ih =>
    rw [List.any_cons, aget_cons, ih]
    by_cases h : p.1 = k <;> simp [h]
theorem aput_new {l : List (κ × α)} {k : κ} {v : α} (h : aget l k = none) : aput l k v = l ++ [(k, v)] := by
  unfold aput
  rw [aany, h]
  rfl
theorem aput_old {l : List (κ × α)} {k : κ} {v u : α} (h : aget l k = some u) : aput l k v = l.map (fun p => if p.1 = k then (p.1, v) else p) := by
  unfold aput
  rw [aany, h]
  rfl
theorem keys_aput_old {l : List (κ × α)} {k : κ} {v u : α} (h : aget l k = some u) : (aput l k v).map (·.1) = l.map (·.1) := by
  rw [aput_old h, List.map_map]
  refine List.map_congr_left fun p _ => ?_
  show (if p.1 = k then (p.1, v) else p).1 = p.1
  by_cases e : p.1 = k <;> simp [e]
theorem keys_aput_new {l : List (κ × α)} {k : κ} {v : α} (h : aget l k = none) : (aput l k v).map (·.1) = l.map (·.1) ++ [k] := by
  rw [aput_new h, List.map_append]
  rfl
theorem length_aput {l : List (κ × α)} {k : κ} {v : α} : (aput l k v).length ≤ l.length + 1 := by
  unfold aput
  split
  · rw [List.length_map]; omega
  · rw [List.length_append]; simp
theorem nodup_aput {l : List (κ × α)} {k : κ} {v : α} (h : (l.map (·.1)).Nodup) : ((aput l k v).map (·.1)).Nodup := by
  cases e : aget l k with
  | none =>
    rw [keys_aput_new e]
    refine List.nodup_append.mpr ⟨h, by simp, fun a m b n => ?_⟩
    rw [List.mem_singleton] at n
    subst n
    exact fun z => aget_none.mp e (z ▸ m)
  | some u => rw [keys_aput_old e]; exact h
theorem mem_keys_aput {l : List (κ × α)} {k j : κ} {v : α} : j ∈ (aput l k v).map (·.1) ↔ j = k ∨ j ∈ l.map (·.1) := by
  cases e : aget l k with
  | none => rw [keys_aput_new e]; simp [or_comm]
  | some u =>
    rw [keys_aput_old e]
    constructor
    · exact .inr
    · rintro (rfl | h)
      · exact List.mem_map.mpr ⟨_, aget_some_mem e, rfl⟩
      · exact h
theorem aget_aput {l : List (κ × α)} {k j : κ} {v : α} : aget (aput l k v) j = if k = j then some v else aget l j := by
  cases e : aget l k with
  | none =>
    rw [aput_new e]
    induction l with
    | nil => rw [List.nil_append, aget_cons]
    | cons p r ih =>
      rw [aget_cons] at e
      by_cases h : p.1 = k
      · rw [if_pos h] at e; cases e
      · rw [if_neg h] at e
        rw [List.cons_append, aget_cons, aget_cons, ih e]
        by_cases z : p.1 = j
        · rw [if_pos z, if_pos z, if_neg (fun y => h (z.trans y.symm))]
        · rw [if_neg z, if_neg z]
  | some u =>
    rw [aput_old e]
    induction l generalizing u with
    | nil => cases e
    | cons p r ih =>
      rw [aget_cons] at e
      rw [List.map_cons, aget_cons, aget_cons]
      by_cases h : p.1 = k
      · have e1 : (if p.1 = k then (p.1, v) else p) = (p.1, v) := if_pos h
        rw [e1]
        show (if p.1 = j then some v else _) = _
        by_cases z : p.1 = j
        · rw [if_pos z, if_pos (h.symm.trans z)]
        · rw [if_neg z, if_neg z, if_neg (fun y => z (h.trans y))]
          cases e2 : aget r k with
          | none =>
            have : r.map (fun p => if p.1 = k then (p.1, v) else p) = r := by
              conv => rhs; rw [← List.map_id r]
              refine List.map_congr_left fun q hq => ?_
              have : ¬ q.1 = k := fun y => aget_none.mp e2 (List.mem_map.mpr ⟨q, hq, y⟩)
              rw [if_neg this]; rfl
            rw [this]
          | some u2 =>
            rw [ih u2 e2, if_neg (fun y => z (h.trans y))]
      · rw [if_neg h] at e
        rw [if_neg h, ih u e]
        by_cases z : p.1 = j
        · rw [if_pos z, if_pos z, if_neg (fun y => h (z.trans y.symm))]
        · rw [if_neg z, if_neg z]
theorem aget_adrop {l : List (κ × α)} {k j : κ} : aget (adrop l k) j = if k = j then none else aget l j := by
  induction l with
  | nil => rw [show adrop ([] : List (κ × α)) k = [] from rfl, aget_nil]; simp
  | cons p r ih =>
    unfold adrop at ih ⊢
    rw [List.filter_cons]
    by_cases h : p.1 = k
    · rw [if_neg (by simp [h]), ih, aget_cons]
      by_cases z : k = j
      · rw [if_pos z, if_pos z]
      · rw [if_neg z, if_neg z, if_neg (fun y => z (h.symm.trans y))]
    · rw [if_pos (by simp [h]), aget_cons, ih, aget_cons]
      by_cases z : p.1 = j
      · rw [if_pos z, if_pos z, if_neg (fun y => h (z.trans y.symm))]
      · rw [if_neg z, if_neg z]
theorem nodup_adrop {l : List (κ × α)} {k : κ} (h : (l.map (·.1)).Nodup) : ((adrop l k).map (·.1)).Nodup := h.sublist (List.Sublist.map _ List.filter_sublist)
theorem length_adrop {l : List (κ × α)} {k : κ} : (adrop l k).length ≤ l.length := List.length_filter_le _ _
theorem mem_adrop {l : List (κ × α)} {k : κ} {p : κ × α} : p ∈ adrop l k ↔ p ∈ l ∧ p.1 ≠ k := by
  unfold adrop
  rw [List.mem_filter, decide_eq_true_eq]
theorem mem_keys_adrop {l : List (κ × α)} {k j : κ} : j ∈ (adrop l k).map (·.1) ↔ j ∈ l.map (·.1) ∧ j ≠ k := by
  constructor
  · intro h
    obtain ⟨p, m, e⟩ := List.mem_map.mp h
    obtain ⟨m1, m2⟩ := mem_adrop.mp m
    exact ⟨List.mem_map.mpr ⟨p, m1, e⟩, e ▸ m2⟩
  · rintro ⟨h, n⟩
    obtain ⟨p, m, e⟩ := List.mem_map.mp h
    exact List.mem_map.mpr ⟨p, mem_adrop.mpr ⟨m, e ▸ n⟩, e⟩
theorem mem_aput {l : List (κ × α)} {k : κ} {v : α} {p : κ × α} (h : p ∈ aput l k v) : p = (k, v) ∨ (p ∈ l ∧ p.1 ≠ k) := by
  cases e : aget l k with
  | none =>
    rw [aput_new e] at h
    rcases List.mem_append.mp h with m | m
    · exact .inr ⟨m, fun z => aget_none.mp e (List.mem_map.mpr ⟨p, m, z⟩)⟩
    · exact .inl (List.mem_singleton.mp m)
  | some u =>
    rw [aput_old e] at h
    obtain ⟨q, m, z⟩ := List.mem_map.mp h
    by_cases y : q.1 = k
    · rw [if_pos y] at z
      exact .inl (by rw [← z, y])
    · rw [if_neg y] at z
      subst z
      exact .inr ⟨m, y⟩
end

/-! ### tables of a dict -/
section
variable {α : Type}
/-- keys are ints -/
def ik (W : Int → α → V) (l : List (Int × α)) : List (Key × V) := l.map fun p => (Sum.inl p.1, W p.1 p.2)
/-- keys are texts -/
def sk (W : Str → α → V) (l : List (Str × α)) : List (Key × V) := l.map fun p => (Sum.inr p.1, W p.1 p.2)
theorem ik_len {W : Int → α → V} {l : List (Int × α)} : (ik W l).length = l.length := List.length_map ..
theorem sk_len {W : Str → α → V} {l : List (Str × α)} : (sk W l).length = l.length := List.length_map ..
theorem valV_ik {W : Int → α → V} {l : List (Int × α)} {k : Int} : valV (ik W l) (Sum.inl k : Key) = (aget l k).map (W k) := by
  induction l with
  | nil => rfl
  | cons p r ih =>
    rw [aget_cons]
    by_cases h : p.1 = k
    · rw [if_pos h]
      show valV ((Sum.inl p.1, W p.1 p.2) :: ik W r) _ = _
      rw [valV_pos (by show (Sum.inl p.1 : Key) = _; rw [h]), h]
      rfl
    · rw [if_neg h]
      show valV ((Sum.inl p.1, W p.1 p.2) :: ik W r) _ = _
      rw [valV_neg (fun z => h (Sum.inl.inj z)), ih]
theorem valV_sk {W : Str → α → V} {l : List (Str × α)} {k : Str} : valV (sk W l) (Sum.inr k : Key) = (aget l k).map (W k) := by
  induction l with
  | nil => rfl
  | cons p r ih =>
    rw [aget_cons]
    by_cases h : p.1 = k
    · rw [if_pos h]
      show valV ((Sum.inr p.1, W p.1 p.2) :: sk W r) _ = _
      rw [valV_pos (by show (Sum.inr p.1 : Key) = _; rw [h]), h]
      rfl
    · rw [if_neg h]
      show valV ((Sum.inr p.1, W p.1 p.2) :: sk W r) _ = _
      rw [valV_neg (fun z => h (Sum.inr.inj z)), ih]
theorem ik_ext {W W' : Int → α → V} {l : List (Int × α)} (h : ∀ p ∈ l, W p.1 p.2 = W' p.1 p.2) : ik W l = ik W' l := List.map_congr_left fun p m => by rw [h p m]
theorem sk_ext {W W' : Str → α → V} {l : List (Str × α)} (h : ∀ p ∈ l, W p.1 p.2 = W' p.1 p.2) : sk W l = sk W' l := List.map_congr_left fun p m => by rw [h p m]
theorem putK_ik {W W' : Int → α → V} {l : List (Int × α)} {k : Int} {v : α} {x : V} (e : W' k v = x) (h : ∀ p ∈ l, p.1 ≠ k → W p.1 p.2 = W' p.1 p.2) : putK (ik W l) (Sum.inl k) x = ik W' (aput l k v) := by
  unfold putK
  have a : ((ik W l).any fun kv => decide (kv.1 = (Sum.inl k : Key))) = (l.any fun p => decide (p.1 = k)) := by
    unfold ik
    rw [List.any_map]
    congr 1
    funext p
    show decide ((Sum.inl p.1 : Key) = Sum.inl k) = _
    by_cases z : p.1 = k
    · simp [z]
    · rw [decide_eq_false (fun y => z (Sum.inl.inj y)), decide_eq_false z]
  rw [a]
  unfold aput
  split
  · rename_i hh
    unfold ik
    rw [List.map_map, List.map_map]
    refine List.map_congr_left fun p m => ?_
    show (if (Sum.inl p.1 : Key) = Sum.inl k then _ else _) = _
    by_cases z : p.1 = k
    · rw [if_pos (by rw [z])]
      show _ = (Sum.inl (if p.1 = k then (p.1, v) else p).1, W' (if p.1 = k then (p.1, v) else p).1 (if p.1 = k then (p.1, v) else p).2)
      rw [if_pos z, ← e, ← z]
    · rw [if_neg (fun y => z (Sum.inl.inj y))]
      show _ = (Sum.inl (if p.1 = k then (p.1, v) else p).1, W' (if p.1 = k then (p.1, v) else p).1 (if p.1 = k then (p.1, v) else p).2)
      rw [if_neg z]
      show (Sum.inl p.1, W p.1 p.2) = (Sum.inl p.1, W' p.1 p.2)
      rw [h p m z]
  · rename_i hh
    have hn : ∀ p ∈ l, p.1 ≠ k := fun p m z => hh (List.any_eq_true.mpr ⟨p, m, by simp [z]⟩)
    unfold ik
    rw [List.map_append]
    show _ = _ ++ [(Sum.inl k, W' k v)]
    rw [e]
    congr 1
    exact List.map_congr_left fun p m => by rw [h p m (hn p m)]
theorem putK_sk {W W' : Str → α → V} {l : List (Str × α)} {k : Str} {v : α} {x : V} (e : W' k v = x) (h : ∀ p ∈ l, p.1 ≠ k → W p.1 p.2 = W' p.1 p.2) : putK (sk W l) (Sum.inr k) x = sk W' (aput l k v) := by
  unfold putK
  have a : ((sk W l).any fun kv => decide (kv.1 = (Sum.inr k : Key))) = (l.any fun p => decide (p.1 = k)) := by
    unfold sk
    rw [List.any_map]
    congr 1
    funext p
    show decide ((Sum.inr p.1 : Key) = Sum.inr k) = _
    by_cases z : p.1 = k
    · simp [z]
    · rw [decide_eq_false (fun y => z (Sum.inr.inj y)), decide_eq_false z]
  rw [a]
  unfold aput
  split
  · rename_i hh
    unfold sk
    rw [List.map_map, List.map_map]
    refine List.map_congr_left fun p m => ?_
    show (if (Sum.inr p.1 : Key) = Sum.inr k then _ else _) = _
    by_cases z : p.1 = k
    · rw [if_pos (by rw [z])]
      show _ = (Sum.inr (if p.1 = k then (p.1, v) else p).1, W' (if p.1 = k then (p.1, v) else p).1 (if p.1 = k then (p.1, v) else p).2)
      rw [if_pos z, ← e, ← z]
    · rw [if_neg (fun y => z (Sum.inr.inj y))]
      show _ = (Sum.inr (if p.1 = k then (p.1, v) else p).1, W' (if p.1 = k then (p.1, v) else p).1 (if p.1 = k then (p.1, v) else p).2)
      rw [if_neg z]
      show (Sum.inr p.1, W p.1 p.2) = (Sum.inr p.1, W' p.1 p.2)
      rw [h p m z]
  · rename_i hh
    have hn : ∀ p ∈ l, p.1 ≠ k := fun p m z => hh (List.any_eq_true.mpr ⟨p, m, by simp [z]⟩)
    unfold sk
    rw [List.map_append]
    show _ = _ ++ [(Sum.inr k, W' k v)]
    rw [e]
    congr 1
    exact List.map_congr_left fun p m => by rw [h p m (hn p m)]
theorem dropK_ik {W : Int → α → V} {l : List (Int × α)} {k : Int} : dropK (ik W l) (Sum.inl k : Key) = ik W (adrop l k) := by
  unfold dropK ik adrop
  rw [List.filter_map]
  congr 1
  refine List.filter_congr fun p _ => ?_
  show decide ((Sum.inl p.1 : Key) ≠ Sum.inl k) = _
  simp
theorem dropK_sk {W : Str → α → V} {l : List (Str × α)} {k : Str} : dropK (sk W l) (Sum.inr k : Key) = sk W (adrop l k) := by
  unfold dropK sk adrop
  rw [List.filter_map]
  congr 1
  refine List.filter_congr fun p _ => ?_
  show decide ((Sum.inr p.1 : Key) ≠ Sum.inr k) = _
  simp
theorem ik_get {W : Int → α → V} {l : List (Int × α)} {i : Nat} {k : Key} {v : V} (h : (ik W l)[i]? = some (k, v)) : ∃ p, l[i]? = some p ∧ k = Sum.inl p.1 ∧ v = W p.1 p.2 := by
  unfold ik at h
  rw [List.getElem?_map] at h
  cases e : l[i]? with
  | none => rw [e] at h; cases h
  | some p => rw [e] at h; cases h; exact ⟨p, rfl, rfl, rfl⟩
theorem sk_get {W : Str → α → V} {l : List (Str × α)} {i : Nat} {k : Key} {v : V} (h : (sk W l)[i]? = some (k, v)) : ∃ p, l[i]? = some p ∧ k = Sum.inr p.1 ∧ v = W p.1 p.2 := by
  unfold sk at h
  rw [List.getElem?_map] at h
  cases e : l[i]? with
  | none => rw [e] at h; cases h
  | some p => rw [e] at h; cases h; exact ⟨p, rfl, rfl, rfl⟩
end
/-- values are ints -/
abbrev iv : Int → Int → V := fun _ v => .int v
theorem putK_iv {l : List (Int × Int)} {k v : Int} : putK (ik iv l) (Sum.inl k : Key) (.int v) = ik iv (aput l k v) := putK_ik rfl fun _ _ _ => rfl
theorem valV_iv {l : List (Int × Int)} {k v : Int} (h : aget l k = some v) : valV (ik iv l) (Sum.inl k : Key) = some (.int v) := by rw [valV_ik, h]; rfl
theorem take_succ {α : Type} {l : List α} {i : Nat} {x : α} (h : l[i]? = some x) : l.take (i + 1) = l.take i ++ [x] := by
  rw [List.take_succ, h]
  rfl

/-! ### two sorted lists with the same items are one -/
theorem perm_sorted_eq {α : Type} {le : α → α → Prop} (anti : ∀ a b, le a b → le b a → a = b) : ∀ {l m : List α}, l.Perm m → l.Pairwise le → m.Pairwise le → l = m
  | [], m, p, _, _ => (List.nil_perm.mp p).symm
  | a :: l, [], p, _, _ => absurd (List.perm_nil.mp p) (by simp)
  | a :: l, b :: m, p, h1, h2 => by
    have e : a = b := by
      have m1 : a ∈ b :: m := p.mem_iff.mp List.mem_cons_self
      have m2 : b ∈ a :: l := p.mem_iff.mpr List.mem_cons_self
      rcases List.mem_cons.mp m1 with z | z
      · exact z
      · rcases List.mem_cons.mp m2 with y | y
        · exact y.symm
        · exact anti a b ((List.pairwise_cons.mp h1).1 b y) ((List.pairwise_cons.mp h2).1 a z)
    subst e
    rw [perm_sorted_eq anti (List.perm_cons a |>.mp p) (List.pairwise_cons.mp h1).2 (List.pairwise_cons.mp h2).2]
/-- pairs of ints by Python's order -/
def pLe (a b : Int × Int) : Prop := a.1 < b.1 ∨ (a.1 = b.1 ∧ a.2 ≤ b.2)
instance (a b : Int × Int) : Decidable (pLe a b) := inferInstanceAs (Decidable (_ ∨ _))
theorem pLe_anti (a b : Int × Int) (h : pLe a b) (h' : pLe b a) : a = b := by
  obtain ⟨x, y⟩ := a
  obtain ⟨z, w⟩ := b
  unfold pLe at h h'
  simp only at h h'
  have e1 : x = z := by omega
  have e2 : y = w := by omega
  rw [e1, e2]
def sortP (l : List (Int × Int)) : List (Int × Int) := l.mergeSort fun a b => decide (pLe a b)
theorem sortP_perm (l : List (Int × Int)) : (sortP l).Perm l := List.mergeSort_perm _ _
theorem sortP_sorted (l : List (Int × Int)) : (sortP l).Pairwise pLe := by
  have h := List.pairwise_mergeSort (le := fun a b => decide (pLe a b)) (fun a b c h1 h2 => ?_) (fun a b => ?_) l
  · exact h.imp fun {a b} e => of_decide_eq_true e
  · have a1 := of_decide_eq_true h1
    have a2 := of_decide_eq_true h2
    refine decide_eq_true ?_
    unfold pLe at *
    omega
  · rw [Bool.or_eq_true, decide_eq_true_eq, decide_eq_true_eq]
    unfold pLe
    omega
theorem sortP_unique {l m : List (Int × Int)} (p : m.Perm l) (h : m.Pairwise pLe) : m = sortP l :=
  perm_sorted_eq pLe_anti (p.trans (sortP_perm l).symm) h (sortP_sorted l)
end LW

set_option maxHeartbeats 4000000
namespace LW
open PySem PySem.Spec PyProof.Rows L2
/-! ### what a value holds, by tuples -/
section
variable {α : Type}
/-- y is a tuple that holds f x -/
def IsT (f : α → List V) (H : Hp) (y : V) (x : α) : Prop := ∃ t, y = .ref t ∧ H t = some (.tup (f x))
theorem IsT.keep {f : α → List V} {H H' : Hp} {y : V} {x : α} (k : TupK H H') (h : IsT f H y x) : IsT f H' y x := let ⟨t, e, a⟩ := h; ⟨t, e, k _ _ a⟩
theorem keepT {f : α → List V} {H H' : Hp} {ys : List V} {xs : List α} (k : TupK H H') (h : Paired (IsT f H) ys xs) : Paired (IsT f H') ys xs := h.mono fun _ _ => IsT.keep k
theorem snocT {f : α → List V} {H : Hp} {ys : List V} {xs : List α} {y : V} {x : α} (h : Paired (IsT f H) ys xs) (hy : IsT f H y x) : Paired (IsT f H) (ys ++ [y]) (xs ++ [x]) := Paired.snoc h hy
theorem getT {f : α → List V} {H : Hp} : ∀ {ys : List V} {xs : List α} {i : Nat} {y : V}, Paired (IsT f H) ys xs → ys[i]? = some y → ∃ x, xs[i]? = some x ∧ IsT f H y x
  | _, _, _, _, .nil, e => by simp at e
  | _, _, 0, _, .cons a _, e => by simp at e; subst e; exact ⟨_, rfl, a⟩
  | _, _, i + 1, y, .cons a t, e => by
    obtain ⟨x, h1, h2⟩ := getT (i := i) (y := y) t (by simpa using e)
    exact ⟨x, by simpa using h1, h2⟩
theorem appT {f : α → List V} {H : Hp} : ∀ {ys zs : List V} {xs ws : List α}, Paired (IsT f H) ys xs → Paired (IsT f H) zs ws → Paired (IsT f H) (ys ++ zs) (xs ++ ws)
  | _, _, _, _, .nil, h => h
  | _, _, _, _, .cons a t, h => .cons a (appT t h)
theorem takeT {f : α → List V} {H : Hp} : ∀ {ys : List V} {xs : List α} (n : Nat), Paired (IsT f H) ys xs → Paired (IsT f H) (ys.take n) (xs.take n)
  | _, _, 0, _ => .nil
  | _, _, n + 1, .nil => .nil
  | _, _, n + 1, .cons a t => .cons a (takeT n t)
theorem dropT {f : α → List V} {H : Hp} : ∀ {ys : List V} {xs : List α} (n : Nat), Paired (IsT f H) ys xs → Paired (IsT f H) (ys.drop n) (xs.drop n)
  | _, _, 0, h => h
  | _, _, n + 1, .nil => .nil
  | _, _, n + 1, .cons a t => dropT n t
end
/-- a pair of ints -/
abbrev fP (p : Int × Int) : List V := [.int p.1, .int p.2]
abbrev IsP : Hp → V → Int × Int → Prop := IsT fP
theorem keepP {H H' : Hp} {ys : List V} {ps : List (Int × Int)} (k : TupK H H') (h : Paired (IsP H) ys ps) : Paired (IsP H') ys ps := keepT k h
def pairOf (H : Hp) : V → Int × Int
  | .ref t => match H t with
    | some (.tup [.int i, .int j]) => (i, j)
    | _ => (0, 0)
  | _ => (0, 0)
theorem isP_of {H : Hp} {y : V} {p : Int × Int} (h : IsP H y p) : pairOf H y = p := by
  obtain ⟨t, rfl, e⟩ := h
  show (match H t with
    | some (.tup [.int i, .int j]) => (i, j)
    | _ => (0, 0)) = p
  rw [e]
theorem pmapOf {H : Hp} {xs : List V} {ds : List (Int × Int)} (h : Paired (IsP H) xs ds) : xs.map (pairOf H) = ds := by
  induction h with
  | nil => rfl
  | cons a _ ih => rw [List.map_cons, isP_of a, ih]
theorem pall {α β : Type} {F : α → β → Prop} {xs : List α} {ys : List β} (h : Paired F xs ys) : ∀ x ∈ xs, ∃ y, F x y := by
  induction h with
  | nil => intro x m; cases m
  | cons a _ ih =>
    intro x m
    rcases List.mem_cons.mp m with e | e
    · exact ⟨_, e ▸ a⟩
    · exact ih x e
theorem paired_map {H : Hp} : ∀ {ys : List V}, (∀ y ∈ ys, ∃ p, IsP H y p) → Paired (IsP H) ys (ys.map (pairOf H))
  | [], _ => .nil
  | y :: ys, h => by
    obtain ⟨p, hp⟩ := h y List.mem_cons_self
    refine .cons ?_ (paired_map fun z m => h z (List.mem_cons_of_mem _ m))
    rw [isP_of hp]
    exact hp
section
variable {K : PySem.W.Frag} {H : Hp} {Q : VK}
theorem l_sortedP {F : List Addr} {H0 : Hp} {a : Addr} {xs : List V} {ds : List (Int × Int)} (r : Run F H0 H) (h : H a = some (.lst xs)) (hx : Paired (IsP H) xs ds)
    (q : ∀ p H' ys, H0 p = none → p ∉ F → H p = none → Run F H0 H' → H' p = some (.lst ys) → Same H H' → Paired (IsP H') ys (sortP ds) → Q (.ref p) H') : rSortedPO K [.ref a] H Q := by
  refine ⟨a, xs, pairOf H, rfl, SqL.of h, fun x m => ?_, fun ys p h1 h2 hp => ?_⟩
  · obtain ⟨d, t, e, z⟩ := pall hx x m
    refine ⟨t, e, ?_⟩
    rw [e, isP_of (p := d) ⟨t, rfl, z⟩]
    exact z
  · obtain ⟨r1, r2, r3⟩ := r.new (o := .lst ys) hp
    have sm : Same H (upd H p (.lst ys)) := fun a u e => by rw [upd_ne (ne_of_none e hp)]; exact e
    refine q p _ ys r2 r3 hp r1 upd_same sm ?_
    have al : ∀ y ∈ ys, ∃ d, IsP H y d := fun y m => pall hx y (h2.perm.mem_iff.mp m)
    have e : ys.map (pairOf H) = sortP ds := by
      refine sortP_unique ?_ ?_
      · rw [← pmapOf hx]
        exact h2.perm.map _
      · refine List.pairwise_map.mpr (List.Pairwise.imp (fun {x y} hxy => ?_) h1)
        have z : ¬ ((pairOf H y).1 < (pairOf H x).1 ∨ ((pairOf H y).1 = (pairOf H x).1 ∧ (pairOf H y).2 < (pairOf H x).2)) := fun w => Bool.false_ne_true (hxy.symm.trans (SrtO.lexB_iff.mpr w))
        unfold pLe
        omega
    rw [← e]
    exact keepP (fun a u => sm a _) (paired_map al)
end
end LW
namespace LW
open PySem PySem.Spec PyProof.Rows L2
section
variable {K : PySem.W.Frag} {σ : St} {H : Hp} {Q : VK} {te td : TE} {tt : TT} {α : Type}
theorem lc_keysI {d : Addr} {W : Int → α → V} {l : List (Int × α)} {j : Nat} (hd : H d = some (.dK (ik W l))) (hz : (ik W l).length < sizeLine)
    (htd : ∀ od (R : VK), R (.ref d) (upd H d (.frz od (.dK (ik W l)))) → td σ (upd H d (.frz od (.dK (ik W l)))) R)
    (P : List (Int × α) → List V → Hp → Prop) (h0 : P [] [] H) (hP : ∀ m acc H1 H2, TupK H1 H2 → P m acc H1 → P m acc H2)
    (hs : ∀ i p od acc H1 (R : VK) (R0 : Hp → Prop), l[i]? = some p → H1 d = some (.frz od (.dK (ik W l))) → (∀ a o, a ≠ d → H a = some o → H1 a = some o) → acc.length ≤ i → P (l.take i) acc H1 →
      (∀ y H4, Ext [] H1 H4 → P (l.take i ++ [p]) (acc ++ [y]) H4 → R y H4) → (∀ H3, Ext [] H1 H3 → P (l.take i ++ [p]) acc H3 → R0 H3) →
      tt (σ.set j (some (.int p.1))) H1 fun b H3 => if b = true then te (σ.set j (some (.int p.1))) H3 R else R0 H3)
    (q : ∀ D H' acc, H D = none → Ext [] H H' → H' D = some (.lst acc) → acc.length ≤ l.length → P l acc H' → Q (.ref D) H') :
    tLockE (tLc (iKeys td) (gName j) tt te [j]) σ H Q := by
  refine lc_keys hd hz htd (fun i acc H' => P (l.take i) acc H') h0 (fun i => hP _) (fun i k v od acc H1 R R0 ek hf hk hl hp q1 q0 => ?_) (fun D H' acc nD e hD lD hp => ?_)
  · obtain ⟨p, el, rfl, rfl⟩ := ik_get ek
    have e1 := take_succ el
    exact hs i p od acc H1 R R0 el hf hk hl hp (fun y H4 e4 p4 => q1 y H4 e4 (by rw [e1]; exact p4)) fun H3 e3 p3 => q0 H3 e3 (by rw [e1]; exact p3)
  · rw [ik_len] at lD hp
    rw [List.take_length] at hp
    exact q D H' acc nD e hD lD hp
theorem lc_keysS {d : Addr} {W : Str → α → V} {l : List (Str × α)} {j : Nat} (hd : H d = some (.dK (sk W l))) (hz : (sk W l).length < sizeLine)
    (htd : ∀ od (R : VK), R (.ref d) (upd H d (.frz od (.dK (sk W l)))) → td σ (upd H d (.frz od (.dK (sk W l)))) R)
    (P : List (Str × α) → List V → Hp → Prop) (h0 : P [] [] H) (hP : ∀ m acc H1 H2, TupK H1 H2 → P m acc H1 → P m acc H2)
    (hs : ∀ i p od acc H1 (R : VK) (R0 : Hp → Prop), l[i]? = some p → H1 d = some (.frz od (.dK (sk W l))) → (∀ a o, a ≠ d → H a = some o → H1 a = some o) → acc.length ≤ i → P (l.take i) acc H1 →
      (∀ y H4, Ext [] H1 H4 → P (l.take i ++ [p]) (acc ++ [y]) H4 → R y H4) → (∀ H3, Ext [] H1 H3 → P (l.take i ++ [p]) acc H3 → R0 H3) →
      tt (σ.set j (some (.str p.1))) H1 fun b H3 => if b = true then te (σ.set j (some (.str p.1))) H3 R else R0 H3)
    (q : ∀ D H' acc, H D = none → Ext [] H H' → H' D = some (.lst acc) → acc.length ≤ l.length → P l acc H' → Q (.ref D) H') :
    tLockE (tLc (iKeys td) (gName j) tt te [j]) σ H Q := by
  refine lc_keys hd hz htd (fun i acc H' => P (l.take i) acc H') h0 (fun i => hP _) (fun i k v od acc H1 R R0 ek hf hk hl hp q1 q0 => ?_) (fun D H' acc nD e hD lD hp => ?_)
  · obtain ⟨p, el, rfl, rfl⟩ := sk_get ek
    have e1 := take_succ el
    exact hs i p od acc H1 R R0 el hf hk hl hp (fun y H4 e4 p4 => q1 y H4 e4 (by rw [e1]; exact p4)) fun H3 e3 p3 => q0 H3 e3 (by rw [e1]; exact p3)
  · rw [sk_len] at lD hp
    rw [List.take_length] at hp
    exact q D H' acc nD e hD lD hp
end
theorem pmapP {H : Hp} {acc : List V} {m : List (Int × Int)} {p : Int × Int} {y : V} (h : Paired (IsP H) acc m) (hy : IsP H y p) : Paired (IsP H) (acc ++ [y]) (m ++ [p]) := Paired.snoc h hy
end LW

set_option maxHeartbeats 4000000
namespace LW
open PySem PySem.Spec PyProof.Rows L2
/-! ### built-ins by names -/
def rLenQ (K : PySem.W.Frag) : List V → Hp → VK → Prop := fun xs H Q => ∃ p ys, xs = [.ref p] ∧ (SqL K H p ys ∨ SqT K H p ys) ∧ Q (.int ys.length) H
def rLenX : List V → Hp → VK → Prop := fun xs H Q => ∃ z, xs = [.str z] ∧ z.length ≤ sizeLine ∧ Q (.int z.length) H
def rListQ (K : PySem.W.Frag) : List V → Hp → VK → Prop := fun xs H Q => ∃ p ys, xs = [.ref p] ∧ (SqL K H p ys ∨ SqT K H p ys) ∧ ∀ l, H l = none → Q (.ref l) (upd H l (.lst ys))
section
variable {X : Cx}
theorem oLen : CallR X (.builtin "len") (rLenQ X.K) := call_len_seq
theorem oLenX : CallR X (.builtin "len") rLenX := call_len_str
theorem oList : CallR X (.type "list") (rListQ X.K) := call_list_of
end
/-! ### data -/
/-- what == sees of a plain value -/
def toD : V → PyData
  | .bl b => .bool b
  | .int i => .int i
  | .str x => .str x
  | _ => .none
def plainV : V → Bool
  | .non => true | .bl _ => true | .int _ => true | .str x => PyData.strOk x
  | _ => false
/-- None, a truth value, an int, a text -/
def simpV : V → Bool
  | .non => true | .bl _ => true | .int _ => true | .str _ => true
  | _ => false
section
variable {K : PySem.W.Frag} {H : Hp} {Q : VK} {α : Type} {f : α → List V}
theorem dp_plain {v : V} (h : plainV v = true) : Dp K H v (toD v) := by
  cases v with
  | non => exact .non
  | bl b => exact .bl b
  | int i => exact .int i
  | str x => exact .str x
  | _ => cases h
theorem dp_plains : ∀ {vs : List V}, vs.all plainV = true → DpAll K H vs (vs.map toD)
  | [], _ => .nil
  | v :: vs, h => by
    rw [List.all_cons, Bool.and_eq_true] at h
    exact .cons (dp_plain h.1) (dp_plains h.2)
theorem dp_tup {y : V} {x : α} (hf : (f x).all plainV = true) (h : IsT f H y x) : Dp K H y (.tuple ((f x).map toD)) := by
  obtain ⟨t, rfl, e⟩ := h
  exact .tup (SqT.of e) (dp_plains hf)
theorem dp_tups (hf : ∀ x, (f x).all plainV = true) {ys : List V} {xs : List α} (h : Paired (IsT f H) ys xs) : DpAll K H ys (xs.map fun x => .tuple ((f x).map toD)) := by
  induction h with
  | nil => exact .nil
  | cons a _ ih => exact .cons (dp_tup (hf _) a) ih
theorem lay_plain : ∀ {v : V}, plainV v = true → (toD v).canLay0 = true ∧ (toD v).depth ≤ 1
  | .non, _ => by constructor <;> simp [toD, PyData.canLay0, PyData.depth]
  | .bl _, _ => by constructor <;> simp [toD, PyData.canLay0, PyData.depth]
  | .int _, _ => by constructor <;> simp [toD, PyData.canLay0, PyData.depth]
  | .str x, h => by
    have h' : PyData.strOk x = true := h
    constructor <;> simp [toD, PyData.canLay0, PyData.depth, h']
  | .byt _, h => by cases h
  | .flt _, h => by cases h
  | .ref _, h => by cases h
  | .ty _, h => by cases h
theorem lay_plains : ∀ {vs : List V}, vs.all plainV = true → PyData.canLayAll0 (vs.map toD) = true ∧ PyData.depthAll (vs.map toD) ≤ 1
  | [], _ => by constructor <;> simp [PyData.canLayAll0, PyData.depthAll]
  | v :: vs, h => by
    rw [List.all_cons, Bool.and_eq_true] at h
    obtain ⟨a, b⟩ := lay_plain h.1
    obtain ⟨c, d⟩ := lay_plains h.2
    constructor
    · simp [PyData.canLayAll0, a, c]
    · simp [PyData.depthAll]; omega
theorem lay_tups (hf : ∀ x, (f x).all plainV = true) : ∀ xs : List α, PyData.canLayAll0 (xs.map fun x => .tuple ((f x).map toD)) = true ∧ PyData.depthAll (xs.map fun x => .tuple ((f x).map toD)) ≤ 2
  | [] => by constructor <;> simp [PyData.canLayAll0, PyData.depthAll]
  | x :: xs => by
    obtain ⟨a, b⟩ := lay_plains (hf x)
    obtain ⟨c, d⟩ := lay_tups hf xs
    constructor
    · simp [PyData.canLayAll0, PyData.canLay0, a, c]
    · simp [PyData.depthAll, PyData.depth]; omega
theorem shaped_tups (hf : ∀ x, (f x).all plainV = true) (xs : List α) : SeqAt.shaped (.list (xs.map fun x => .tuple ((f x).map toD))) = true := by
  obtain ⟨a, b⟩ := lay_tups hf xs
  unfold SeqAt.shaped
  rw [Bool.and_eq_true, decide_eq_true_eq]
  constructor
  · simpa [PyData.canLay0] using a
  · simp [PyData.depth]; omega
theorem shaped_plain {v : V} (h : plainV v = true) : SeqAt.shaped (toD v) = true := by
  obtain ⟨a, b⟩ := lay_plain h
  unfold SeqAt.shaped
  rw [Bool.and_eq_true, decide_eq_true_eq]
  exact ⟨a, by omega⟩
theorem shaped_lay {d : PyData} (h : SeqAt.shaped d = true) : d.canLay0 = true := SeqAt.canLay_of_shaped h
/-- two lists of the same tuples are equal -/
theorem l_eqT {a b : Addr} {xs ys : List V} {ds : List α} (hf : ∀ x, (f x).all plainV = true) (ha : SqL K H a xs) (hb : SqL K H b ys) (h1 : Paired (IsT f H) xs ds) (h2 : Paired (IsT f H) ys ds) (q : Q (.bl true) H) :
    rEqD K (.ref a) (.ref b) H Q := ⟨_, _, .lst ha (dp_tups hf h1), .lst hb (dp_tups hf h2), shaped_tups hf ds, shaped_tups hf ds, by rw [SeqAt.eqv_refl _ (shaped_lay (shaped_tups hf ds))]; exact q⟩
theorem eqv_plain : ∀ {x y : V}, plainV x = true → plainV y = true → (∀ b, x ≠ .bl b) → (∀ b, y ≠ .bl b) → PyData.eqv (toD x) (toD y) = decide (x = y)
  | .non, .non, _, _, _, _ => by simp [toD, PyData.eqv]
  | .non, .int _, _, _, _, _ => by simp [toD, PyData.eqv]
  | .non, .str _, _, _, _, _ => by simp [toD, PyData.eqv]
  | .int _, .non, _, _, _, _ => by simp [toD, PyData.eqv]
  | .int i, .int j, _, _, _, _ => by simp [toD, PyData.eqv, Bool.beq_eq_decide_eq]
  | .int _, .str _, _, _, _, _ => by simp [toD, PyData.eqv]
  | .str _, .non, _, _, _, _ => by simp [toD, PyData.eqv]
  | .str _, .int _, _, _, _, _ => by simp [toD, PyData.eqv]
  | .str i, .str j, _, _, _, _ => by simp [toD, PyData.eqv, Bool.beq_eq_decide_eq]
  | .bl b, _, _, _, h, _ => absurd rfl (h b)
  | .non, .bl b, _, _, _, h => absurd rfl (h b)
  | .int _, .bl b, _, _, _, h => absurd rfl (h b)
  | .str _, .bl b, _, _, _, h => absurd rfl (h b)
  | .byt _, _, h, _, _, _ => by cases h
  | .flt _, _, h, _, _, _ => by cases h
  | .ref _, _, h, _, _, _ => by cases h
  | .ty _, _, h, _, _, _ => by cases h
  | .non, .byt _, _, h, _, _ => by cases h
  | .non, .flt _, _, h, _, _ => by cases h
  | .non, .ref _, _, h, _, _ => by cases h
  | .non, .ty _, _, h, _, _ => by cases h
  | .int _, .byt _, _, h, _, _ => by cases h
  | .int _, .flt _, _, h, _, _ => by cases h
  | .int _, .ref _, _, h, _, _ => by cases h
  | .int _, .ty _, _, h, _, _ => by cases h
  | .str _, .byt _, _, h, _, _ => by cases h
  | .str _, .flt _, _, h, _, _ => by cases h
  | .str _, .ref _, _, h, _, _ => by cases h
  | .str _, .ty _, _, h, _, _ => by cases h
/-- two plain values (no truth values) -/
theorem l_eqV {x y : V} (hx : plainV x = true) (hy : plainV y = true) (hb : ∀ b, x ≠ .bl b) (hb2 : ∀ b, y ≠ .bl b) (q : Q (.bl (decide (x = y))) H) : rEqD K x y H Q :=
  ⟨_, _, dp_plain hx, dp_plain hy, shaped_plain hx, shaped_plain hy, by rw [eqv_plain hx hy hb hb2]; exact q⟩
theorem l_neV {x y : V} (hx : plainV x = true) (hy : plainV y = true) (hb : ∀ b, x ≠ .bl b) (hb2 : ∀ b, y ≠ .bl b) (q : Q (.bl (!decide (x = y))) H) : rNeD K x y H Q :=
  ⟨_, _, dp_plain hx, dp_plain hy, shaped_plain hx, shaped_plain hy, by rw [eqv_plain hx hy hb hb2]; exact q⟩
theorem shaped_nil : SeqAt.shaped (.list []) = true := by decide +kernel
theorem eqv_nil (ds : List PyData) : PyData.eqv (.list ds) (.list []) = ds.isEmpty := by
  cases ds <;> simp [PyData.eqv, PyData.eqvAll]
/-- a list of tuples against [] -/
theorem l_neT0 {a b : Addr} {xs : List V} {ds : List α} (hf : ∀ x, (f x).all plainV = true) (ha : SqL K H a xs) (hb : SqL K H b []) (h1 : Paired (IsT f H) xs ds) (q : Q (.bl (!ds.isEmpty)) H) : rNeD K (.ref a) (.ref b) H Q :=
  ⟨_, _, .lst ha (dp_tups hf h1), .lst hb .nil, shaped_tups hf ds, shaped_nil, by rw [eqv_nil]; simpa using q⟩
theorem l_eqT0 {a b : Addr} {xs : List V} {ds : List α} (hf : ∀ x, (f x).all plainV = true) (ha : SqL K H a xs) (hb : SqL K H b []) (h1 : Paired (IsT f H) xs ds) (q : Q (.bl ds.isEmpty) H) : rEqD K (.ref a) (.ref b) H Q :=
  ⟨_, _, .lst ha (dp_tups hf h1), .lst hb .nil, shaped_tups hf ds, shaped_nil, by rw [eqv_nil]; simpa using q⟩
/-- [] against [] -/
theorem l_neN {a b : Addr} (ha : SqL K H a []) (hb : SqL K H b []) (q : Q (.bl false) H) : rNeD K (.ref a) (.ref b) H Q :=
  ⟨_, _, .lst ha .nil, .lst hb .nil, shaped_nil, shaped_nil, by rw [eqv_nil]; exact q⟩
/-- lists of texts -/
theorem l_eqTx {a b : Addr} {xs ys : List Str} (ox : ∀ x ∈ xs, PyData.strOk x = true) (oy : ∀ x ∈ ys, PyData.strOk x = true) (ha : SqL K H a (xs.map V.str)) (hb : SqL K H b (ys.map V.str)) (q : Q (.bl (decide (xs = ys))) H) : rEqD K (.ref a) (.ref b) H Q := by
  have al : ∀ l : List Str, (∀ x ∈ l, PyData.strOk x = true) → (l.map V.str).all plainV = true := fun l h => by
    rw [List.all_eq_true]
    intro v m
    obtain ⟨x, mx, rfl⟩ := List.mem_map.mp m
    exact h x mx
  have sh : ∀ l : List Str, (∀ x ∈ l, PyData.strOk x = true) → SeqAt.shaped (.list ((l.map V.str).map toD)) = true := fun l h => by
    obtain ⟨a, b⟩ := lay_plains (al l h)
    unfold SeqAt.shaped
    rw [Bool.and_eq_true, decide_eq_true_eq]
    constructor
    · simpa [PyData.canLay0] using a
    · simp only [PyData.depth]; omega
  refine ⟨_, _, .lst ha (dp_plains (al xs ox)), .lst hb (dp_plains (al ys oy)), sh xs ox, sh ys oy, ?_⟩
  have e : PyData.eqv (.list ((xs.map V.str).map toD)) (.list ((ys.map V.str).map toD)) = decide (xs = ys) := by
    rw [PyData.eqv]
    clear ha hb q ox oy
    induction xs generalizing ys with
    | nil => cases ys <;> simp [PyData.eqvAll]
    | cons x xs ih =>
      cases ys with
      | nil => simp [PyData.eqvAll]
      | cons y ys =>
        simp only [List.map_cons, PyData.eqvAll, toD, PyData.eqv] at ih ⊢
        rw [ih]
        by_cases h1 : x = y <;> by_cases h2 : xs = ys <;> simp [h1, h2]
  rw [e]
  exact q

/-! ### isinstance -/
def isI : V → Bool
  | .int _ => true
  | _ => false
def isS : V → Bool
  | .str _ => true
  | _ => false
def isB : V → Bool
  | .bl _ => true
  | _ => false
theorem l_isiI {v : V} (h : simpV v = true) (q : Q (.bl (isI v || isB v)) H) : rIsi K [v, .ty "int"] H Q := by
  cases v with
  | non => exact ⟨_, _, _, _, false, rfl, .ty _, .base .non, kit_ty (by decide +kernel), q⟩
  | bl b => exact ⟨_, _, _, _, true, rfl, .ty _, .base (.bl b), kit_ty (by decide +kernel), q⟩
  | int i => exact ⟨_, _, _, _, true, rfl, .ty _, .base (.int i), kit_ty (by decide +kernel), q⟩
  | str x => exact ⟨_, _, _, _, false, rfl, .ty _, .base (.str x), kit_ty (by decide +kernel), q⟩
  | _ => cases h
theorem l_isiB {v : V} (h : simpV v = true) (q : Q (.bl (isB v)) H) : rIsi K [v, .ty "bool"] H Q := by
  cases v with
  | non => exact ⟨_, _, _, _, false, rfl, .ty _, .base .non, kit_ty (by decide +kernel), q⟩
  | bl b => exact ⟨_, _, _, _, true, rfl, .ty _, .base (.bl b), kit_ty (by decide +kernel), q⟩
  | int i => exact ⟨_, _, _, _, false, rfl, .ty _, .base (.int i), kit_ty (by decide +kernel), q⟩
  | str x => exact ⟨_, _, _, _, false, rfl, .ty _, .base (.str x), kit_ty (by decide +kernel), q⟩
  | _ => cases h
theorem l_isiS {v : V} (h : simpV v = true) (q : Q (.bl (isS v)) H) : rIsi K [v, .ty "str"] H Q := by
  cases v with
  | non => exact ⟨_, _, _, _, false, rfl, .ty _, .base .non, kit_ty (by decide +kernel), q⟩
  | bl b => exact ⟨_, _, _, _, false, rfl, .ty _, .base (.bl b), kit_ty (by decide +kernel), q⟩
  | int i => exact ⟨_, _, _, _, false, rfl, .ty _, .base (.int i), kit_ty (by decide +kernel), q⟩
  | str x => exact ⟨_, _, _, _, true, rfl, .ty _, .base (.str x), kit_ty (by decide +kernel), q⟩
  | _ => cases h
theorem l_isiL {a : Addr} {xs : List V} (h : H a = some (.lst xs)) (q : Q (.bl true) H) : rIsi K [.ref a, .ty "list"] H Q := ⟨_, _, _, _, true, rfl, .ty _, .base (.lst h), kit_ty (by decide +kernel), q⟩
theorem l_isiT {a : Addr} {xs : List V} (h : H a = some (.tup xs)) (q : Q (.bl true) H) : rIsi K [.ref a, .ty "tuple"] H Q := ⟨_, _, _, _, true, rfl, .ty _, .base (.tup h), kit_ty (by decide +kernel), q⟩

/-! ### displays of dicts -/
def LDisp (p : Addr) (ps : List (V × V)) (H : Hp) (Q : VK) : Prop := H p = some (.dK []) ∧ ∃ kvs : List (Key × V), ps = kvs.map (fun kv => (kV kv.1, kv.2)) ∧ kvs.length ≤ 15 ∧ Q (.ref p) (upd H p (.dK (mergeK [] kvs)))
variable {σ : St} {trs : List (TE × TE)} {tk tv : TE} {R : List (V × V) → Hp → Prop}
theorem k_disp {F : List Addr} {H0 : Hp} (r : Run F H0 H) (q : ∀ p H', H0 p = none → p ∉ F → H p = none → Run F H0 H' → H' p = some (.dK []) → Same H H' → tPairs trs σ H' fun ps H2 => LDisp p ps H2 Q) :
    tDisp trs σ H Q := fun p hp =>
  let ⟨r1, r2, r3⟩ := r.new hp
  q p _ r2 r3 hp r1 upd_same (fun a u e => by rw [upd_ne (ne_of_none e hp)]; exact e)
theorem k_pnil (q : R [] H) : tPairs [] σ H R := q
theorem k_pcons (q : tk σ H fun x H1 => tv σ H1 fun y H2 => tPairs trs σ H2 fun ps H3 => R ((x, y) :: ps) H3) : tPairs ((tk, tv) :: trs) σ H R := q
def keyOf : V × V → Key × V
  | (.str s, v) => (.inr s, v)
  | (.int i, v) => (.inl i, v)
  | (_, v) => (.inl 0, v)
theorem l_disp {F : List Addr} {H0 : Hp} {p : Addr} {ps : List (V × V)} {kvs : List (Key × V)} (r : Run F H0 H) (h : H p = some (.dK [])) (e : ps = (ps.map keyOf).map (fun kv => (kV kv.1, kv.2))) (z : (ps.map keyOf).length ≤ 15) (e2 : mergeK [] (ps.map keyOf) = kvs) (w : p ∈ F ∨ H0 p = none)
    (q : ∀ H', Run F H0 H' → H' p = some (.dK kvs) → (∀ b, b ≠ p → H' b = H b) → Q (.ref p) H') : LDisp p ps H Q :=
  ⟨h, _, e, z, by rw [e2]; exact q _ (r.wr h (by intro _ z; cases z) w) upd_same fun b n => upd_ne n⟩
-- len, list methods
theorem l_lenL {a : Addr} {xs : List V} (h : SqL K H a xs) (q : Q (.int xs.length) H) : rLenQ K [.ref a] H Q := ⟨a, _, rfl, .inl h, q⟩
theorem l_lenT {a : Addr} {xs : List V} (h : SqT K H a xs) (q : Q (.int xs.length) H) : rLenQ K [.ref a] H Q := ⟨a, _, rfl, .inr h, q⟩
theorem l_lenX {z : Str} (h : z.length ≤ sizeLine) (q : Q (.int z.length) H) : rLenX [.str z] H Q := ⟨z, rfl, h, q⟩
theorem l_listL {a : Addr} {xs : List V} (h : SqL K H a xs) (q : LNew (.lst xs) H Q) : rListQ K [.ref a] H Q := ⟨a, _, rfl, .inl h, q⟩
theorem l_listT {a : Addr} {xs : List V} (h : SqT K H a xs) (q : LNew (.lst xs) H Q) : rListQ K [.ref a] H Q := ⟨a, _, rfl, .inr h, q⟩
end

/-! ### the end -/
theorem fn_out {P : Program} {w : World} {K : PySem.W.Frag} {mg : Str → Option Value} {base : Heap} {k : Nat} {f : Addr} {fd : FuncData} {ps : List Str} {sp : Sp} (F : FnOk P w K mg base (L2N.CX P w) k f fd ps sp)
    (h : ∀ vs H Q E, sp vs H Q E → sp vs H Q fun _ _ _ => False) : FnOk P w K mg base CX0 k f fd ps sp := by
  refine ⟨F.len, fun A outer s H args us vs Q E hr e0 hb r hs => ?_⟩
  refine codeAny_mono (F.run A outer s H args us vs Q (fun _ _ _ => False) hr e0 hb r (h _ _ _ _ hs)) fun res s' hq => ?_
  match res, hq with
  | .error e, hq =>
    obtain ⟨_, _, _, _, _, _, _, _, _, _, _, _, z⟩ := hq
    exact z.elim
  | .ok v, hq => cases v <;> exact hq
end LW
namespace LW
open PySem PySem.Spec PyProof.Rows L2
/-! ### items by their places -/
theorem atI_of {α : Type} {xs : List α} {n : Int} {v : α} (h : 0 ≤ n) (e : xs[n.toNat]? = some v) : atI xs n = some v := by
  obtain ⟨m, rfl⟩ := Int.eq_ofNat_of_zero_le h
  have hm : m < xs.length := by
    rcases Nat.lt_or_ge m xs.length with z | z
    · exact z
    · rw [show ((m : Int)).toNat = m from rfl, List.getElem?_eq_none z] at e
      cases e
  unfold atI ixN
  rw [if_pos h, if_pos (by omega)]
  exact e
theorem atI_map {α : Type} {f : α → V} {xs : List α} {n : Int} {d : α} (h : 0 ≤ n) (l : n < xs.length) : atI (xs.map f) n = some (f (xs.getD n.toNat d)) := by
  refine atI_of h ?_
  have hm : n.toNat < xs.length := by omega
  rw [List.getElem?_map, List.getD_eq_getElem?_getD, List.getElem?_eq_getElem hm]
  rfl
end LW

set_option maxHeartbeats 4000000
namespace LW
open PySem PySem.Spec PyProof.Rows L2
/-! ### the suite that tells a refusal by its class's word -/
theorem l_catch {K : PySem.W.Frag} {iw ie : Nat} {words : List Str} {D0 : Str} {spo : SpE} {a : Addr} {c : Value} {d : Option Addr} {as : TA} {nx bk ct : St → Hp → Prop} {rt : VK} {σ : St} {H : Hp}
    (hm : D0 ∈ words) (ok : ∀ x ∈ words, PyData.strOk x = true) (hz : words.length ≤ 1000) (has : ∀ S : List V → Hp → Prop, S (words.map V.str) H → as σ H S) (he : σ[ie]? = some (some (.ref a))) (hne : iw ≠ ie) (hl : iw < σ.length)
    (hsp : ∀ word H (Q : VK), PyData.strOk word = true → (∀ H', Ext [] H H' → Q (.bl (decide (D0 = word))) H') → spo a c d [.ref a, .str word] H Q E0) (q : ∀ H', Ext [] H H' → rt (.str D0) H') :
    tForN (iList K (tLst as)) (gName iw) (tIfS (tB (tCallE spo a c d (tCons (tVar ie) (tCons (tVar iw) tNil)))) (tRet (tVar iw)) tNext) ⟨nx, rt, bk, ct⟩ σ H := by
  unfold tForN iList
  refine k_lst (has _ (l_lst (by rw [List.length_map]; exact hz) (l_new (Run.start (F := []) Live.nil) fun l H1 f1 f2 f3 r1 h1 s1 => ?_)))
  refine ⟨l, rfl, ⟨_, SqL.of h1⟩, ?_⟩
  refine forN_list (K := K) (a := l) (xs := words.map V.str) (fun i σ' H' => (∀ j, j < i → words[j]? ≠ some D0) ∧ σ'[ie]? = some (some (.ref a)) ∧ σ'.length = σ.length ∧ Ext [] H1 H') ⟨fun j h => by omega, he, rfl, Ext.refl _ _⟩
    (fun i σ' H' p => SqL.of (p.2.2.2.keep _ _ h1 (by simp))) (fun i σ' H' p => ?_) (fun i x σ' H' ex p => ?_)
  · rw [List.length_map]
    rcases Nat.lt_or_ge i words.length with z | z
    · exact z
    · obtain ⟨j, hj, e⟩ := List.mem_iff_getElem.mp hm
      exact absurd (show words[j]? = some D0 by rw [List.getElem?_eq_getElem hj, e]) (p.1 j (by omega))
  · obtain ⟨p1, p2, p3, p4⟩ := p
    rw [List.getElem?_map] at ex
    cases ew : words[i]? with
    | none => rw [ew] at ex; cases ex
    | some wd =>
      rw [ew] at ex
      obtain rfl : V.str wd = x := Option.some.inj ex
      have okw : PyData.strOk wd = true := ok wd (List.mem_of_getElem? ew)
      refine g_name (k_ifS (k_B (k_callE (k_cons (k_var (v := .ref a) (by rw [List.getElem?_set_ne hne]; exact p2) (k_cons (k_var (v := .str wd) (by rw [List.getElem?_set_self (by omega)]) (k_nil ?_))))))))
      refine hsp wd H' _ okw fun H2 e2 => k_bl (k_ifd (fun cc => ?_) fun cc => ?_)
      · refine k_ret (k_var (v := .str wd) (by rw [List.getElem?_set_self (by omega)]) ?_)
        subst cc
        exact q _ (Ext.trans r1.ext (Ext.trans p4 e2))
      · refine k_next ⟨fun j hj e => ?_, by rw [List.getElem?_set_ne hne]; exact p2, by rw [List.length_set]; exact p3, p4.trans e2⟩
        rcases Nat.lt_or_ge j i with z | z
        · exact p1 j z e
        · have : j = i := by omega
          subst this
          rw [ew] at e
          exact cc (Option.some.inj e).symm
end LW
namespace LW
open PySem PySem.Spec PyProof.Rows L2
theorem l_wAs {K : PySem.W.Frag} {c : Value} {i : Nat} {ts : Addr → Value → Option Addr → TS} {Wout : WX} {nx bk ct : St → Hp → Prop} {rt : VK} {σ : St} {cls : Value} {d : Option Addr} {H : Hp} (h : PySem.W.exmOne K cls c = some true)
    (q : ∀ a, H a = none → ts a cls d ⟨fun σ' H' => nx (σ'.set i none) H', rt, fun σ' H' => bk (σ'.set i none) H', fun σ' H' => ct (σ'.set i none) H'⟩ (σ.set i (some (.ref a))) H) : WE (wAs K c i ts Wout ⟨nx, rt, bk, ct⟩) σ cls d H :=
  ⟨true, h, fun _ => q, fun z => by cases z⟩
end LW
namespace LW
open PySem PySem.Spec PyProof.Rows L2
section
variable {K : PySem.W.Frag} {nx bk ct : St → Hp → Prop} {rt : VK} {σ : St} {H : Hp} {Q : VK} {ta : TE}
theorem k_ntt {A B : Prop} (h : B) : if (!true) = true then A else B := h
theorem k_ntf {A B : Prop} (h : A) : if (!false) = true then A else B := h
theorem k_clear (h : ta σ H fun x H1 => tyV K "list" x H1 ∧ rClear x [] H1 Q) : tBM0 K "list" rClear ta σ H Q := h
theorem l_clear {F : List Addr} {H0 : Hp} {a : Addr} {xs : List V} (r : Run F H0 H) (h : H a = some (.lst xs)) (w : a ∈ F ∨ H0 a = none)
    (q : ∀ H', Run F H0 H' → H' a = some (.lst []) → (∀ b, b ≠ a → H' b = H b) → Q .non H') : rClear (.ref a) [] H Q :=
  ⟨a, xs, rfl, rfl, h, q _ (r.wr h (by intro _ z; cases z) w) upd_same fun b n => upd_ne n⟩
end
end LW
namespace LW
open PySem PySem.Spec PyProof.Rows L2
theorem Run.seq {K : PySem.W.Frag} {H0 H : Hp} {a : Addr} {xs : List V} (r : Run [] H0 H) (h : SqL K H0 a xs) : SqL K H a xs := r.ext.seqL (by simp) h
/-- several ways that go on alike -/
theorem lets {α β : Type} {p : Prop} (G : α → β → Prop) (Pre : α → β → Prop) (main : (∀ n h, Pre n h → G n h) → p) (key : ∀ n h, Pre n h → G n h) : p := main key
end LW

set_option maxHeartbeats 4000000
namespace LW
open PySem PySem.Spec PyProof.Rows L2
/-! ### texts -/
theorem str_ext {a b : Str} (h : a.cps.toList = b.cps.toList) : a = b := by
  cases a with
  | mk x =>
    cases b with
    | mk y => exact congrArg Str.mk (Array.toList_inj.mp h)
theorem len_toList (a : Str) : a.cps.toList.length = a.length := by rw [Array.length_toList]; rfl
/-- x begins with y -/
def begins (x y : Str) : Bool := decide (x.cps.toList.take y.length = y.cps.toList)
theorem cut_begin (x y : Str) : decide (cutS x none (some (y.length : Int)) = y) = begins x y := by
  unfold begins cutS
  rw [HT.sIx_none, HT.sIx_nat]
  have e : ((x.cps.toList.drop 0).take (min y.length x.length - 0)) = x.cps.toList.take y.length := by
    rw [List.drop_zero, Nat.sub_zero]
    rcases Nat.le_total y.length x.length with h | h
    · rw [Nat.min_eq_left h]
    · rw [Nat.min_eq_right h, List.take_of_length_le (by rw [len_toList]; omega), List.take_of_length_le (by rw [len_toList]; omega)]
  rw [e]
  refine decide_eq_decide.mpr ⟨fun h => ?_, fun h => str_ext h⟩
  exact congrArg (fun z : Str => z.cps.toList) h
theorem startswith_begin (x y : Str) : Txt.startswith x y = begins x y := by
  unfold begins Txt.startswith
  rw [StrLaws.subAt_eq, List.drop_zero]
  by_cases h : x.cps.toList.take y.length = y.cps.toList
  · have l : y.length ≤ x.length := by
      have := congrArg List.length h
      rw [List.length_take, len_toList, len_toList] at this
      omega
    simp [h, l]
  · simp [h]
theorem begins_empty (x : Str) : begins x Str.empty = true := by
  unfold begins
  exact decide_eq_true rfl
end LW
namespace LW
open PySem PySem.Spec PyProof.Rows L2
theorem all_toList (a : Str) : PyData.strOk a = a.cps.toList.all (· < 0x110000) := by
  show a.cps.all (· < 0x110000) = _
  rw [Array.all_toList]
theorem ok_append {a b : Str} (ha : PyData.strOk a = true) (hb : PyData.strOk b = true) : PyData.strOk (a ++ b) = true := by
  rw [all_toList] at *
  show ((a.cps ++ b.cps).toList).all _ = true
  rw [Array.toList_append, List.all_append, ha, hb]; rfl
theorem ok_cut {a : Str} {lo hi : Option Int} (ha : PyData.strOk a = true) : PyData.strOk (cutS a lo hi) = true := by
  rw [all_toList, List.all_eq_true] at *
  intro x hx
  exact ha x (List.mem_of_mem_drop (List.mem_of_mem_take hx))
theorem fold_ok : ∀ (r : List Str) (acc : Array Nat), (∀ y ∈ r, PyData.strOk y = true) → acc.toList.all (· < 0x110000) = true → (r.foldl (fun acc p => acc ++ Str.empty.cps ++ p.cps) acc).toList.all (· < 0x110000) = true
  | [], acc, _, h => h
  | p :: r, acc, hr, h => by
    rw [List.foldl_cons]
    refine fold_ok r _ (fun y m => hr y (List.mem_cons_of_mem _ m)) ?_
    have := hr p List.mem_cons_self
    rw [all_toList] at this
    rw [Array.toList_append, Array.toList_append, List.all_append, List.all_append, h, this]
    rfl
theorem ok_join {ys : List Str} (h : ∀ y ∈ ys, PyData.strOk y = true) : PyData.strOk (Txt.join Str.empty ys) = true := by
  rw [all_toList]
  show ((ys.drop 1).foldl (fun acc p => acc ++ Str.empty.cps ++ p.cps) (ys.headD Str.empty).cps).toList.all _ = true
  cases ys with
  | nil => rfl
  | cons y r =>
    refine fold_ok r _ (fun z m => h z (List.mem_cons_of_mem _ m)) ?_
    have := h y List.mem_cons_self
    rw [all_toList] at this
    exact this
theorem fold_len : ∀ (r : List Str) (acc : Array Nat), (r.foldl (fun acc p => acc ++ Str.empty.cps ++ p.cps) acc).size = acc.size + (r.map (·.length)).sum
  | [], acc => by simp
  | p :: r, acc => by
    rw [List.foldl_cons, fold_len r, Array.size_append, Array.size_append, List.map_cons, List.sum_cons]
    have e1 : Str.empty.cps.size = 0 := rfl
    have e2 : p.length = p.cps.size := rfl
    omega
theorem join_len (ys : List Str) : (Txt.join Str.empty ys).length = (ys.map (·.length)).sum := by
  show ((ys.drop 1).foldl (fun acc p => acc ++ Str.empty.cps ++ p.cps) (ys.headD Str.empty).cps).size = _
  cases ys with
  | nil => rfl
  | cons y r =>
    show (r.foldl (fun acc p => acc ++ Str.empty.cps ++ p.cps) y.cps).size = _
    rw [fold_len]
    rfl
end LW

set_option maxHeartbeats 4000000
namespace LW
open PySem PySem.Spec PyProof.Rows L2
/-! ### comprehensions over lists and ranges -/
section
variable {K : PySem.W.Frag} {σ : St} {H : Hp} {Q : VK} {te tl : TE} {tt : TT} {g : TG} {vs : List Nat} {ta : TA}
/-- the turns of a comprehension over J -/
def LTurns (J : It) (g : TG) (tt : TT) (te : TE) (vs : List Nat) (σ : St) (H : Hp) (Q : VK) : Prop := ∀ D, H D = none → ∃ W : Nat → Nat → Hp → Prop, (∃ m, W 0 m (upd H D (.lst []))) ∧ ∀ i m H, W i m H →
  (J.stop i H ∧ Q (.ref D) H) ∨ (J.go i H ∧ ∃ Nx : Hp → Prop, (∀ H', Nx H' → ∃ m', m' < m ∧ W (i + 1) m' H') ∧ ∀ x H', J.yld i H x H' → g x (wipe σ vs) H' fun σ2 H2 => wipe σ2 vs = wipe σ vs ∧ tt σ2 H2 fun b H3 =>
    if b = true then te σ2 H3 fun y H4 => ∃ acc, H4 D = some (.lst acc) ∧ acc.length < sizeLine ∧ Nx (upd H4 D (.lst (acc ++ [y]))) else Nx H3)
def LLc (K : PySem.W.Frag) (g : TG) (tt : TT) (te : TE) (vs : List Nat) (σ : St) (x : V) (H : Hp) (Q : VK) : Prop := ∃ a, x = .ref a ∧ (∃ xs, SqL K H a xs) ∧ LTurns (Itl K a) g tt te vs σ H Q
theorem k_lcL (h : tl σ H fun x H1 => LLc K g tt te vs σ x H1 Q) : tLc (iList K tl) g tt te vs σ H Q := h
def LLr (g : TG) (tt : TT) (te : TE) (vs : List Nat) (σ : St) (as : List V) (H : Hp) (Q : VK) : Prop := ∃ j : Int, as = [.int j] ∧ -(2 ^ 62) ≤ j ∧ j < 2 ^ 62 ∧ LTurns (Itr 0 j.toNat) g tt te vs σ H Q
theorem k_lcR (h : ta σ H fun as H1 => LLr g tt te vs σ as H1 Q) : tLc (iRng1 ta) g tt te vs σ H Q := h
/-- n turns, the i-th one over f i, the heap kept by the turn -/
theorem turns_by {J : It} {n : Nat} {f : Nat → V} (hz : n < sizeLine)
    (jg : ∀ i H1, Ext [] H H1 → i < n → J.go i H1) (js : ∀ H1, Ext [] H H1 → J.stop n H1) (jy : ∀ i H1 x H', Ext [] H H1 → i < n → J.yld i H1 x H' → H' = H1 ∧ x = f i)
    (S : V → St → St) (hg : ∀ x H1 (R : St → Hp → Prop), R (S x σ) H1 → g x (wipe σ vs) H1 fun σ2 H2 => wipe σ2 vs = wipe σ vs ∧ R σ2 H2)
    (P : Nat → List V → Hp → Prop) (h0 : P 0 [] H) (hP : ∀ i acc H1 H2, TupK H1 H2 → P i acc H1 → P i acc H2)
    (hs : ∀ i acc H1 (R : VK) (R0 : Hp → Prop), i < n → Ext [] H H1 → acc.length ≤ i → P i acc H1 →
      (∀ y H4, Ext [] H1 H4 → P (i + 1) (acc ++ [y]) H4 → R y H4) → (∀ H3, Ext [] H1 H3 → P (i + 1) acc H3 → R0 H3) →
      tt (S (f i) σ) H1 fun b H3 => if b = true then te (S (f i) σ) H3 R else R0 H3)
    (q : ∀ D H' acc, H D = none → Ext [] H H' → H' D = some (.lst acc) → acc.length ≤ n → P n acc H' → Q (.ref D) H') : LTurns J g tt te vs σ H Q := by
  intro D hD
  refine ⟨fun i m H1 => m = n - i ∧ i ≤ n ∧ Ext [] H H1 ∧ ∃ acc, H1 D = some (.lst acc) ∧ acc.length ≤ i ∧ P i acc H1, ⟨n, by simp, Nat.zero_le _, Ext.new hD, [], upd_same, Nat.le_refl _, hP 0 [] H _ (Ext.new (F := []) hD).tups h0⟩, ?_⟩
  rintro i m H1 ⟨rfl, hi, e, acc, hA, hl, p⟩
  by_cases hlt : i < n
  · refine .inr ⟨jg i H1 e hlt, fun H' => i + 1 ≤ n ∧ Ext [] H H' ∧ ∃ acc, H' D = some (.lst acc) ∧ acc.length ≤ i + 1 ∧ P (i + 1) acc H', fun H' p' => ⟨n - (i + 1), by omega, rfl, p'⟩, fun x H' y => ?_⟩
    obtain ⟨rfl, rfl⟩ := jy i H1 x H' e hlt y
    refine hg _ _ _ (hs i acc H' _ _ hlt e hl p (fun y H4 e4 p4 => ?_) fun H3 e3 p3 => ?_)
    · have h4 : H4 D = some (.lst acc) := e4.keep _ _ hA (by simp)
      refine ⟨acc, h4, by omega, hlt, (e.trans e4).wrN h4 (fun xs z => by cases z) hD, acc ++ [y], upd_same, by rw [List.length_append]; simpa using hl, hP _ _ H4 _ (TupK.upd fun xs z => by rw [h4] at z; cases z) p4⟩
    · exact ⟨hlt, e.trans e3, acc, e3.keep _ _ hA (by simp), Nat.le_succ_of_le hl, p3⟩
  · have : i = n := by omega
    subst this
    exact .inl ⟨js H1 e, q D H1 acc hD e hA hl p⟩
theorem wipe1 (σ : St) (j : Nat) (x : V) : wipe ((wipe σ [j]).set j (some x)) [j] = wipe σ [j] := by
  show ((σ.set j none).set j (some x)).set j none = σ.set j none
  rw [List.set_set, List.set_set]
theorem l_lcL {a : Addr} {xs : List V} {j : Nat} (hS : SqL K H a xs) (hz : xs.length < sizeLine) (P : Nat → List V → Hp → Prop) (h0 : P 0 [] H) (hP : ∀ i acc H1 H2, TupK H1 H2 → P i acc H1 → P i acc H2)
    (hs : ∀ i x acc H1 (R : VK) (R0 : Hp → Prop), xs[i]? = some x → Ext [] H H1 → acc.length ≤ i → P i acc H1 →
      (∀ y H4, Ext [] H1 H4 → P (i + 1) (acc ++ [y]) H4 → R y H4) → (∀ H3, Ext [] H1 H3 → P (i + 1) acc H3 → R0 H3) →
      tt (σ.set j (some x)) H1 fun b H3 => if b = true then te (σ.set j (some x)) H3 R else R0 H3)
    (q : ∀ D H' acc, H D = none → Ext [] H H' → H' D = some (.lst acc) → acc.length ≤ xs.length → P xs.length acc H' → Q (.ref D) H') : LLc K (gName j) tt te [j] σ (.ref a) H Q := by
  refine ⟨a, rfl, ⟨xs, hS⟩, turns_by (n := xs.length) (f := fun i => xs.getD i .non) hz (fun i H1 e h => ⟨xs, xs[i], e.seqL (by simp) hS, by simp [h]⟩) (fun H1 e => ?_) (fun i H1 x H' e h y => ?_) (fun x σ => σ.set j (some x)) (fun x H1 R r => ?_) P h0 hP (fun i acc H1 R R0 h e hl p q1 q0 => ?_) q⟩
  · exact ⟨xs, e.seqL (by simp) hS, Nat.le_refl _⟩
  · obtain ⟨e1, y⟩ := y
    subst e1
    have z := y xs (e.seqL (by simp) hS)
    rw [List.getD_eq_getElem?_getD, z]
    exact ⟨rfl, rfl⟩
  · refine ⟨wipe1 σ j x, ?_⟩
    rw [show (wipe σ [j]).set j (some x) = σ.set j (some x) from sets3 σ j _]
    exact r
  · refine hs i _ acc H1 R R0 ?_ e hl p q1 q0
    rw [List.getD_eq_getElem?_getD, List.getElem?_eq_getElem h]
    rfl
theorem l_lcR {n : Int} {j : Nat} (hb : n ≤ 100000) (hb2 : -100000 ≤ n) (P : Nat → List V → Hp → Prop) (h0 : P 0 [] H) (hP : ∀ i acc H1 H2, TupK H1 H2 → P i acc H1 → P i acc H2)
    (hs : ∀ (i : Nat) acc H1 (R : VK) (R0 : Hp → Prop), i < n.toNat → Ext [] H H1 → acc.length ≤ i → P i acc H1 →
      (∀ y H4, Ext [] H1 H4 → P (i + 1) (acc ++ [y]) H4 → R y H4) → (∀ H3, Ext [] H1 H3 → P (i + 1) acc H3 → R0 H3) →
      tt (σ.set j (some (.int (0 + (i : Int))))) H1 fun b H3 => if b = true then te (σ.set j (some (.int (0 + (i : Int))))) H3 R else R0 H3)
    (q : ∀ D H' acc, H D = none → Ext [] H H' → H' D = some (.lst acc) → acc.length ≤ n.toNat → P n.toNat acc H' → Q (.ref D) H') : LLr (gName j) tt te [j] σ [.int n] H Q := by
  refine ⟨n, rfl, by omega, by omega, turns_by (n := n.toNat) (f := fun i => .int (0 + (i : Int))) (Nat.lt_of_le_of_lt (show n.toNat ≤ 100000 by omega) (by decide)) (fun i H1 e h => h) (fun H1 e => Nat.le_refl _) (fun i H1 x H' e h y => y) (fun x σ => σ.set j (some x)) (fun x H1 R r => ?_) P h0 hP hs q⟩
  refine ⟨wipe1 σ j x, ?_⟩
  rw [show (wipe σ [j]).set j (some x) = σ.set j (some x) from sets3 σ j _]
  exact r
end
end LW

set_option maxHeartbeats 4000000
namespace LW
open PySem PySem.Spec PyProof.Rows L2
/-! ### several things in the heap, each with what it owns -/
section
variable {ι : Type} [DecidableEq ι]
def at_ {α : Type} (f : ι → α) (i : ι) (x : α) : ι → α := fun j => if j = i then x else f j
theorem at_same {α : Type} {f : ι → α} {i : ι} {x : α} : at_ f i x i = x := if_pos rfl
theorem at_ne {α : Type} {f : ι → α} {i j : ι} {x : α} (h : j ≠ i) : at_ f i x j = f j := if_neg h
theorem at_id {α : Type} {f : ι → α} {i : ι} : at_ f i (f i) = f := by
  funext j
  unfold at_
  by_cases h : j = i
  · rw [if_pos h, h]
  · rw [if_neg h]
structure Sep (H0 H : Hp) (F : ι → List Addr) : Prop where
  ap : ∀ i j, i ≠ j → Apart (F i) (F j)
  lv : ∀ i, Live H (F i)
  ex : Ext [] H0 H
  nw : ∀ i, ∀ c ∈ F i, H0 c = none
theorem Grow.unb {H H0 : Hp} {F G : List Addr} (g : Grow H F G) (e : Ext [] H0 H) (n : ∀ c ∈ F, H0 c = none) : ∀ c ∈ G, H0 c = Option.none := fun c h => (g c h).elim (n c) fun z => e.free z (by simp)
theorem Sep.step {H0 H H' : Hp} {F : ι → List Addr} {i : ι} {G : List Addr} (S : Sep H0 H F) (e : Ext (F i) H H') (g : Grow H (F i) G) (l : Live H' G) : Sep H0 H' (at_ F i G) := by
  refine ⟨fun j k h => ?_, fun j => ?_, S.ex.then e fun c h => .inr (S.nw i c h), fun j => ?_⟩
  · by_cases hj : j = i
    · subst hj
      rw [at_same, at_ne (Ne.symm h)]
      exact (S.ap j k h).grow g (S.lv k)
    · rw [at_ne hj]
      by_cases hk : k = i
      · subst hk
        rw [at_same]
        exact ((S.ap k j (Ne.symm h)).grow g (S.lv j)).symm
      · rw [at_ne hk]
        exact S.ap j k h
  · by_cases hj : j = i
    · subst hj; rw [at_same]; exact l
    · rw [at_ne hj]; exact (S.lv j).ext e (S.ap j i hj)
  · by_cases hj : j = i
    · subst hj; rw [at_same]; exact g.unb S.ex (S.nw j)
    · rw [at_ne hj]; exact S.nw j
theorem Sep.keepF {H0 H H' : Hp} {F : ι → List Addr} {i : ι} (S : Sep H0 H F) (e : Ext (F i) H H') (l : Live H' (F i)) : Sep H0 H' F := by
  have z := S.step e (Grow.refl _ _) l
  rw [at_id] at z
  exact z
theorem Sep.same {H0 H H' : Hp} {F : ι → List Addr} (S : Sep H0 H F) (e : Ext [] H H') : Sep H0 H' F :=
  ⟨S.ap, fun i => (S.lv i).ext e fun _ _ z => (by cases z), S.ex.trans e, S.nw⟩
/-- the thing at j is out of the reach of what the one at i does -/
theorem Sep.out {H0 H : Hp} {F : ι → List Addr} {i j : ι} (S : Sep H0 H F) (h : j ≠ i) : Apart (F j) (F i) := S.ap j i h
end
/-- a new list, then something that may write it -/
theorem Ext.newThen {F G : List Addr} {H H1 H' : Hp} (a : Ext [] H H1) (b : Ext G H1 H') (h : ∀ c ∈ G, c ∈ F ∨ H c = none) : Ext F H H' := (a.sub (fun _ z => by cases z) : Ext F H H1).then b h
theorem Grow.mono {H H1 : Hp} {F G : List Addr} (g : Grow H1 F G) (e : Ext [] H H1) : Grow H F G := fun c h => (g c h).elim .inl fun z => .inr (e.free z (by simp))
theorem Grow.of {H : Hp} {F G : List Addr} (h : ∀ c ∈ G, c ∈ F ∨ H c = none) : Grow H F G := h
theorem Live.of {H : Hp} {F : List Addr} (h : ∀ c ∈ F, H c ≠ none) : Live H F := h
theorem Apart.sub {F G F' G' : List Addr} (h : Apart F G) (h1 : ∀ c ∈ F', c ∈ F) (h2 : ∀ c ∈ G', c ∈ G) : Apart F' G' := fun c a b => h c (h1 c a) (h2 c b)
/-! ### things: each with what it owns -/
structure Thing where
  At : Hp → List Addr → Prop
  ext : ∀ {H H' : Hp} {F G : List Addr}, At H F → Ext G H H' → Apart F G → At H' F
  live : ∀ {H : Hp} {F : List Addr}, At H F → Live H F
structure Wd {ι : Type} [DecidableEq ι] (H0 H : Hp) (F : ι → List Addr) (R : ι → Thing) : Prop where
  sep : Sep H0 H F
  r : ∀ i, (R i).At H (F i)
section
variable {ι : Type} [DecidableEq ι] {H0 H H' : Hp} {F : ι → List Addr} {R : ι → Thing}
theorem Wd.step {i : ι} {G : List Addr} {T : Thing} (S : Wd H0 H F R) (e : Ext (F i) H H') (g : Grow H (F i) G) (h : T.At H' G) : Wd H0 H' (at_ F i G) (at_ R i T) :=
  ⟨S.sep.step e g (T.live h), fun j => by
    by_cases z : j = i
    · subst z; rw [at_same, at_same]; exact h
    · rw [at_ne z, at_ne z]; exact (R j).ext (S.r j) e (S.sep.ap j i z)⟩
theorem Wd.same (S : Wd H0 H F R) (e : Ext [] H H') : Wd H0 H' F R := ⟨S.sep.same e, fun j => (R j).ext (S.r j) e fun _ _ z => by cases z⟩
theorem Wd.mono {R' : ι → Thing} (S : Wd H0 H F R) (h : ∀ i H F, (R i).At H F → (R' i).At H F) : Wd H0 H F R' := ⟨S.sep, fun i => h i _ _ (S.r i)⟩
theorem Wd.keepF {i : ι} {T : Thing} (S : Wd H0 H F R) (e : Ext (F i) H H') (h : T.At H' (F i)) : Wd H0 H' F (at_ R i T) := by
  have z := S.step e (Grow.refl _ _) h
  rw [at_id] at z
  exact z
end
/-- nothing yet -/
def noTh : Thing where
  At := fun _ F => F = []
  ext := fun h _ _ => h
  live := fun h => by subst h; exact Live.nil
section
variable {ι : Type} [DecidableEq ι] {H : Hp}
theorem Wd.start : Wd (ι := ι) H H (fun _ => []) (fun _ => noTh) := ⟨⟨fun _ _ _ _ z => absurd z List.not_mem_nil, fun _ => Live.nil, Ext.refl _ _, fun _ _ z => absurd z List.not_mem_nil⟩, fun _ => rfl⟩
end
theorem Grow.nil {H : Hp} {F : List Addr} : Grow H F [] := fun _ z => by cases z
theorem Grow.cons {H : Hp} {F G : List Addr} {a : Addr} (h : H a = none) (g : Grow H F G) : Grow H F (a :: G) := fun c z => (List.mem_cons.mp z).elim (fun e => .inr (e ▸ h)) (g c)
theorem Grow.app2 {H : Hp} {F G1 G2 : List Addr} (h1 : Grow H F G1) (h2 : Grow H F G2) : Grow H F (G1 ++ G2) := fun c m => (List.mem_append.mp m).elim (h1 c) (h2 c)
theorem Wd.bump {ι : Type} [DecidableEq ι] {H0 H H' : Hp} {F : ι → List Addr} {R : Nat → ι → Thing} {N N' : Nat} {i : ι} {G : List Addr} (mono : ∀ {N N' : Nat} {i : ι} {H : Hp} {F : List Addr}, N ≤ N' → (R N i).At H F → (R N' i).At H F)
    (S : Wd H0 H F (R N)) (h : (R N' i).At H' G) (g : Grow H (F i) G) (e : Ext (F i) H H') (z : N ≤ N') : Wd H0 H' (at_ F i G) (R N') := by
  refine (S.step (T := R N' i) e g h).mono fun j H1 F1 h1 => ?_
  by_cases c : j = i
  · subst c; rw [at_same] at h1; exact h1
  · rw [at_ne c] at h1; exact mono z h1
end LW

set_option maxHeartbeats 4000000
namespace LW
open PySem PySem.Spec PyProof.Rows L2
/-! ### more built-ins by names -/
def rSW : V → List V → Hp → VK → Prop := fun x xs H Q => ∃ a b, x = .str a ∧ xs = [.str b] ∧ Q (.bl (begins a b)) H
def rJoin (K : PySem.W.Frag) : V → List V → Hp → VK → Prop := fun x xs H Q => ∃ p, ∃ ys : List Str, x = .str Str.empty ∧ xs = [.ref p] ∧ SqL K H p (ys.map V.str) ∧ (ys.map (·.length)).sum ≤ 16777216 ∧ Q (.str (Txt.join Str.empty ys)) H
def rMax : List V → Hp → VK → Prop := fun xs H Q => ∃ i j : Int, xs = [.int i, .int j] ∧ Q (.int (max i j)) H
def rMin : List V → Hp → VK → Prop := fun xs H Q => ∃ i j : Int, xs = [.int i, .int j] ∧ Q (.int (min i j)) H
def rAbs : List V → Hp → VK → Prop := fun xs H Q => ∃ i : Int, xs = [.int i] ∧ Q (.int (i.natAbs : Int)) H
section
variable {X : Cx}
theorem oSW : MtR X "str.startswith" rSW := fun pins s σ H x xs v us Q I rx rv ⟨a, b, ex, eb, q⟩ => mt_startswith pins s σ H x xs v us Q I rx rv ⟨a, b, ex, eb, by rw [startswith_begin]; exact q⟩
theorem oMax (hc : X.calm = true) : CallR X (.builtin "max") rMax := fun pins s σ H xs us Q I r ⟨i, j, e, q⟩ => call_max2 hc pins s σ H xs us Q I r ⟨i, j, e, by
  have : (if j > i then j else i) = max i j := by rw [Int.max_def]; split <;> split <;> omega
  rw [this]; exact q⟩
theorem oMin (hc : X.calm = true) : CallR X (.builtin "min") rMin := fun pins s σ H xs us Q I r ⟨i, j, e, q⟩ => call_min2 hc pins s σ H xs us Q I r ⟨i, j, e, by
  have : (if j < i then j else i) = min i j := by rw [Int.min_def]; split <;> split <;> omega
  rw [this]; exact q⟩
theorem oAbs : CallR X (.builtin "abs") rAbs := fun pins s σ H xs us Q I r ⟨i, e, q⟩ => call_abs pins s σ H xs us Q I r ⟨i, e, by
  have : (if i < 0 then -i else i) = (i.natAbs : Int) := by split <;> omega
  rw [this]; exact q⟩
theorem oJoin : MtR X "str.join" (rJoin X.K) := fun pins s σ H x xs v us Q I rx rv ⟨p, ys, ex, ep, h, z, q⟩ => mt_join pins s σ H x xs v us Q I rx rv ⟨Str.empty, p, ys, ex, ep, .inl h, by
  have : (Str.empty : Str).length = 0 := rfl
  rw [this]; omega, q⟩
end
section
variable {K : PySem.W.Frag} {σ : St} {H : Hp} {Q : VK} {to te : TE} {tl th : TO} {r : V → List V → Hp → VK → Prop} {R : Option Int → Hp → Prop} {rs : V → Option Int → Option Int → Hp → VK → Prop}
def LStr (x : V) (P : Prop) : Prop := (∃ a, x = .str a) ∧ P
theorem k_m1 (h : to σ H fun x H1 => LStr x (te σ H1 fun y H2 => r x [y] H2 Q)) : tM1 r to te σ H Q := h
theorem l_strX {a : Str} {P : Prop} (q : P) : LStr (.str a) P := ⟨⟨a, rfl⟩, q⟩
theorem l_sw {a b : Str} (q : Q (.bl (begins a b)) H) : rSW (.str a) [.str b] H Q := ⟨a, b, rfl, rfl, q⟩
theorem l_max {i j : Int} (q : Q (.int (max i j)) H) : rMax [.int i, .int j] H Q := ⟨i, j, rfl, q⟩
theorem l_min {i j : Int} (q : Q (.int (min i j)) H) : rMin [.int i, .int j] H Q := ⟨i, j, rfl, q⟩
theorem l_abs {i : Int} (q : Q (.int (i.natAbs : Int)) H) : rAbs [.int i] H Q := ⟨i, rfl, q⟩
theorem l_join {p : Addr} {ys : List Str} (h : SqL K H p (ys.map V.str)) (z : (ys.map (·.length)).sum ≤ 16777216) (q : Q (.str (Txt.join Str.empty ys)) H) : rJoin K (.str Str.empty) [.ref p] H Q := ⟨p, ys, rfl, rfl, h, z, q⟩
-- slices
theorem k_sl (h : to σ H fun x H1 => tl σ H1 fun l H2 => th σ H2 fun u H3 => rs x l u H3 Q) : tSl rs to tl th σ H Q := h
def LPart (x : V) (H : Hp) (R : Option Int → Hp → Prop) : Prop := ∃ i, x = .int i ∧ R (some i) H
theorem k_part (h : te σ H fun x H1 => LPart x H1 R) : tPart te σ H R := h
theorem l_part {i : Int} (q : R (some i) H) : LPart (.int i) H R := ⟨i, rfl, q⟩
theorem k_yes {R : Bool → Hp → Prop} (h : R true H) : tYes σ H R := h
theorem k_nopart (q : R none H) : tNoPart σ H R := q
theorem l_slS {z : Str} {lo hi : Option Int} (h : z.length ≤ sizeLine) (q : Q (.str (cutS z lo hi)) H) : rSlS (.str z) lo hi H Q := ⟨z, rfl, h, q⟩
theorem l_slL {F : List Addr} {H0 : Hp} {a : Addr} {xs : List V} {lo hi : Option Int} (r : Run F H0 H) (h : SqL K H a xs)
    (q : ∀ p H', H0 p = none → p ∉ F → H p = none → Run F H0 H' → H' p = some (.lst (cutV xs lo hi)) → Same H H' → Q (.ref p) H') : rSlL K (.ref a) lo hi H Q := ⟨a, xs, rfl, h, l_new r q⟩
theorem cutV_from {xs : List V} {n : Nat} : cutV xs (some (n : Int)) none = xs.drop n := by
  unfold cutV
  rw [HT.sIx_nat, HT.sIx_none]
  rcases Nat.le_total n xs.length with h | h
  · rw [Nat.min_eq_left h, List.take_of_length_le (by rw [List.length_drop]; exact Nat.le_refl _)]
  · rw [Nat.min_eq_right h, List.drop_of_length_le h, List.drop_of_length_le (Nat.le_refl _)]; simp
theorem cutV_to {xs : List V} {n : Nat} : cutV xs none (some (n : Int)) = xs.take n := by
  unfold cutV
  rw [HT.sIx_nat, HT.sIx_none, List.drop_zero, Nat.sub_zero]
  rcases Nat.le_total n xs.length with h | h
  · rw [Nat.min_eq_left h]
  · rw [Nat.min_eq_right h, List.take_of_length_le h, List.take_of_length_le (Nat.le_refl _)]
end
theorem filter_take_snoc {α : Type} {f : α → Bool} {l : List α} {i : Nat} {x : α} (h : l[i]? = some x) : (l.take (i + 1)).filter f = (l.take i).filter f ++ (if f x = true then [x] else []) := by
  rw [take_succ h, List.filter_append, List.filter_cons]
  rfl
theorem take_snoc_lt {α : Type} {A : List α} {x : α} {m : Nat} (h : (A.take m).length < m) : (A ++ [x]).take m = A.take m ++ [x] := by
  rw [List.length_take] at h
  rw [List.take_of_length_le (by omega : A.length ≤ m), List.take_of_length_le (by rw [List.length_append]; simp; omega)]
theorem take_snoc_ge {α : Type} {A : List α} {x : α} {m : Nat} (h : m ≤ (A.take m).length) : (A ++ [x]).take m = A.take m := by
  rw [List.length_take] at h
  exact List.take_append_of_le_length (by omega)
theorem Run.tk {H H' : Hp} {a : Addr} {xs : List V} (n : ∀ b, b ≠ a → H' b = H b) (h : H a = some (.lst xs)) : TupK H H' := fun c ys e => (n c (ne_of e h fun z => by cases z)).trans e
theorem atI_mem {α : Type} {xs : List α} {n : Int} (h : 0 ≤ n) (l : n < xs.length) : ∃ c, atI xs n = some c ∧ c ∈ xs := by
  have hm : n.toNat < xs.length := by omega
  exact ⟨xs[n.toNat], atI_of h (List.getElem?_eq_getElem hm), List.getElem_mem hm⟩
theorem l_ixS {H : Hp} {Q : VK} {z : Str} {n : Int} (hz : z.length ≤ sizeLine) (h : 0 ≤ n) (l : n < z.length) (ok : PyData.strOk z = true) (q : ∀ s, PyData.strOk s = true → s.length = 1 → Q (.str s) H) : rIxS (.str z) (.int n) H Q := by
  obtain ⟨c, ec, mc⟩ := atI_mem (xs := z.cps.toList) h (by rw [len_toList]; exact l)
  refine ⟨z, n, c, rfl, rfl, hz, ec, q _ ?_ rfl⟩
  rw [all_toList, List.all_eq_true] at *
  intro y my
  have : y = c := by simpa using my
  rw [this]
  exact ok c mc
/-! ### plain texts of bounded length -/
/-- a plain text of at most so many signs -/
structure Tx (n : Nat) (s : Str) : Prop where
  ok : PyData.strOk s = true
  le : s.length ≤ n
theorem len_app (a b : Str) : (a ++ b).length = a.length + b.length := by
  show (a.cps ++ b.cps).size = a.cps.size + b.cps.size
  exact Array.size_append
theorem len_cut (a : Str) (lo hi : Option Int) : (cutS a lo hi).length ≤ a.length := by
  rw [← len_toList a]
  unfold cutS
  rw [← len_toList]
  show ((a.cps.toList.drop _).take _).length ≤ _
  rw [List.length_take, List.length_drop]
  omega
theorem Tx.mono {m n : Nat} {s : Str} (h : Tx m s) (z : m ≤ n) : Tx n s := ⟨h.ok, Nat.le_trans h.le z⟩
theorem Tx.app {m n : Nat} {a b : Str} (h1 : Tx m a) (h2 : Tx n b) : Tx (m + n) (a ++ b) := ⟨ok_append h1.ok h2.ok, by rw [len_app]; have := h1.le; have := h2.le; omega⟩
theorem Tx.cut {n : Nat} {a : Str} {lo hi : Option Int} (h : Tx n a) : Tx n (cutS a lo hi) := ⟨ok_cut h.ok, Nat.le_trans (len_cut _ _ _) h.le⟩
theorem Tx.nil : Tx 0 Str.empty := ⟨by decide +kernel, by decide +kernel⟩
theorem Tx.small {n : Nat} {s : Str} (h : Tx n s) (z : n ≤ 1000) : s.length ≤ sizeLine := Nat.le_trans h.le (Nat.le_trans z (by decide))
section
variable {σ : St} {H : Hp} {Q : VK}
theorem x_addS {m n : Nat} {a b : Str} (h1 : Tx m a) (h2 : Tx n b) (z : m + n ≤ 1000) (q : Q (.str (a ++ b)) H) : rSadd (.str a) (.str b) H Q := k_addS (by rw [← len_app]; exact (h1.app h2).small z) q
theorem x_slS {n : Nat} {a : Str} {lo hi : Option Int} (h : Tx n a) (z : n ≤ 1000) (q : Q (.str (cutS a lo hi)) H) : rSlS (.str a) lo hi H Q := l_slS (h.small z) q
theorem x_lenX {n : Nat} {a : Str} (h : Tx n a) (z : n ≤ 1000) (q : Q (.int a.length) H) : rLenX [.str a] H Q := l_lenX (h.small z) q
end
/-! ### rows with texts: each carries that its texts are plain -/
structure Row where
  n : Int
  t : Int
  w : Str
  k : Str
  v : Str
  ow : Tx 1000 w
  ok : Tx 1000 k
  ov : Tx 1000 v
abbrev fR (r : Row) : List V := [.int r.n, .int r.t, .str r.w, .str r.k, .str r.v]
theorem fR_plain (r : Row) : (fR r).all plainV = true := by
  show (true && (true && (PyData.strOk r.w && (PyData.strOk r.k && (PyData.strOk r.v && true))))) = true
  rw [r.ow.ok, r.ok.ok, r.ov.ok]; rfl
abbrev IsR : Hp → V → Row → Prop := IsT fR
structure SS where
  k : Str
  v : Str
  ok : Tx 1000 k
  ov : Tx 1000 v
abbrev fS (p : SS) : List V := [.str p.k, .str p.v]
theorem fS_plain (p : SS) : (fS p).all plainV = true := by
  show (PyData.strOk p.k && (PyData.strOk p.v && true)) = true
  rw [p.ok.ok, p.ov.ok]; rfl
abbrev IsS : Hp → V → SS → Prop := IsT fS
/-! ### how values are picked for the parameters -/
theorem vals_app : ∀ {vs ws : List V} {us xs : List Value}, Vals vs us → Vals ws xs → Vals (vs ++ ws) (us ++ xs)
  | _, _, _, _, .nil, h => h
  | _, _, _, _, .cons a t, h => .cons a (vals_app t h)
theorem vals_pick : ∀ {vs : List V} {us : List Value} (j : Nat), Vals vs us → Vals ((vs.drop j).take 1) ((us.drop j).take 1)
  | _, _, j, .nil => by rw [List.drop_nil, List.drop_nil]; exact .nil
  | _, _, 0, .cons a t => .cons a .nil
  | _, _, j + 1, .cons a t => vals_pick j t
section
variable {σ : St} {H : Hp} {Q : VK} {ta : TE} {t tk : TA} {C : Addr} {m : Str} {n j : Nat} {sp : Sp} {gV : List V → List V → List V} {E : St → XK}
theorem k_methG (h : ta σ H fun x H1 => LIns C m x H1 (t σ H1 fun vs H2 => tk σ H2 fun zs H3 => (x :: vs).length = n ∧ zs.length = j ∧ sp (gV (x :: vs) zs) H3 Q (E σ))) : tMethG C m n j sp gV E ta t tk σ H Q := h
end
/-! ### within a comprehension the rules name K -/
theorem ix_tupK {X : Cx} {K : PySem.W.Frag} (e : X.K = K) : IxR X (rIxT K) := e ▸ ix_tup
theorem ix_listK {X : Cx} {K : PySem.W.Frag} (e : X.K = K) : IxR X (rIxL K) := e ▸ ix_list
theorem l_isiSS {K : PySem.W.Frag} {H : Hp} {Q : VK} {a : Str} (q : Q (.bl true) H) : rIsi K [.str a, .ty "str"] H Q := l_isiS rfl q
theorem atI_last {α : Type} {xs : List α} {v : α} (e : xs[xs.length - 1]? = some v) : atI xs (-1) = some v := by
  have h : 0 < xs.length := by
    rcases Nat.eq_zero_or_pos xs.length with z | z
    · rw [List.getElem?_eq_none (by omega)] at e; cases e
    · exact z
  unfold atI ixN
  rw [if_neg (by omega), if_pos (by omega)]
  have : (-1 + (xs.length : Int)).toNat = xs.length - 1 := by omega
  first
    | rw [this]; exact e
    | (simp only [Option.bind_some]; rw [show ((xs.length : Int) + -1).toNat = xs.length - 1 by omega]; exact e)
theorem ixTx {xs : List Str} {n : Int} {m : Nat} (h : 0 ≤ n) (l : n < xs.length) (ok : ∀ s ∈ xs, Tx m s) : ∃ s, atI (xs.map V.str) n = some (.str s) ∧ Tx m s := by
  obtain ⟨c, ec, mc⟩ := atI_mem (xs := xs.map V.str) h (by rw [List.length_map]; exact l)
  obtain ⟨t, mt, rfl⟩ := List.mem_map.mp mc
  exact ⟨t, ec, ok t mt⟩
def txB (m : Nat) (s : Str) : Bool := PyData.strOk s && decide (s.length ≤ m)
theorem txD {m : Nat} {s : Str} (h : txB m s = true) : Tx m s := by
  unfold txB at h
  rw [Bool.and_eq_true, decide_eq_true_eq] at h
  exact ⟨h.1, h.2⟩
theorem txA {m : Nat} {xs : List Str} (h : xs.all (txB m) = true) : ∀ s ∈ xs, Tx m s := fun s hs => txD (List.all_eq_true.mp h s hs)
/-! ### two ways that meet again -/
section
variable {nx bk ct : St → Hp → Prop} {rt : VK} {σ : St} {H : Hp} {t u : TS} {b : Bool}
theorem k_fork (Pre : St → Hp → Prop) (main : ∀ nx' : St → Hp → Prop, (∀ σ' H', Pre σ' H' → nx' σ' H') → if b = true then t ⟨nx', rt, bk, ct⟩ σ H else u ⟨nx', rt, bk, ct⟩ σ H)
    (key : ∀ σ' H', Pre σ' H' → nx σ' H') : if b = true then t ⟨nx, rt, bk, ct⟩ σ H else u ⟨nx, rt, bk, ct⟩ σ H := main nx key
theorem k_join (Pre : St → Hp → Prop) (main : ∀ nx' : St → Hp → Prop, (∀ σ' H', Pre σ' H' → nx' σ' H') → t ⟨nx', rt, bk, ct⟩ σ H) (key : ∀ σ' H', Pre σ' H' → nx σ' H') : t ⟨nx, rt, bk, ct⟩ σ H := main nx key
end
theorem ix2 {f : Bool → V} (n : Int) : atI [f false, f true] (n % 2) = some (f (decide (n % 2 = 1))) := by
  have h : n % 2 = 0 ∨ n % 2 = 1 := by omega
  rcases h with h | h <;> rw [h] <;> rfl
theorem ixI {xs : List Int} {n : Int} (h : 0 ≤ n) (l : n < xs.length) : ∃ d, atI (xs.map V.int) n = some (.int d) := ⟨_, atI_map (d := 0) h l⟩
end LW

set_option maxHeartbeats 4000000
namespace LW
open PySem PySem.Spec PyProof.Rows L2
/-! ### sorted texts -/
theorem ltC_anti : ∀ {a b : List Nat}, ltCps a b = false → ltCps b a = false → a = b
  | [], [], _, _ => rfl
  | [], _ :: _, h, _ => by simp [ltCps] at h
  | _ :: _, [], _, h => by simp [ltCps] at h
  | x :: a, y :: b, h1, h2 => by
    simp only [ltCps] at h1 h2
    have e : x = y := by
      rcases Nat.lt_trichotomy x y with z | z | z
      · simp [z] at h1
      · exact z
      · simp [z] at h2
    subst e
    simp at h1 h2
    rw [ltC_anti h1 h2]
theorem ltC_trans : ∀ {a b c : List Nat}, ltCps b a = false → ltCps c b = false → ltCps c a = false
  | [], _, c, _, _ => by cases c <;> simp [ltCps]
  | x :: a, [], _, h, _ => by simp [ltCps] at h
  | x :: a, y :: b, [], _, h => by simp [ltCps] at h
  | x :: a, y :: b, z :: c, h1, h2 => by
    simp only [ltCps] at h1 h2 ⊢
    rcases Nat.lt_trichotomy x y with p | p | p
    · rcases Nat.lt_trichotomy y z with q | q | q
      · have : x < z := by omega
        simp [Nat.lt_asymm this, Nat.ne_of_gt this]
      · subst q
        simp [Nat.lt_asymm p, Nat.ne_of_gt p]
      · simp [q] at h2
    · subst p
      rcases Nat.lt_trichotomy x z with q | q | q
      · simp [Nat.lt_asymm q, Nat.ne_of_gt q]
      · subst q
        simp at h1 h2 ⊢
        exact ltC_trans h1 h2
      · simp [q] at h2
    · simp [p] at h1
def leS (a b : Str) : Prop := ltCps b.cps.toList a.cps.toList = false
theorem leS_anti (a b : Str) (h : leS a b) (h' : leS b a) : a = b := (str_ext (ltC_anti h h')).symm
theorem leS_trans {a b c : Str} (h : leS a b) (h' : leS b c) : leS a c := ltC_trans h h'
theorem rising_pair : ∀ (p : Str) (l : List Str), risingS p l = true → (p :: l).Pairwise leS
  | p, [], _ => by simp
  | p, x :: l, h => by
    simp only [risingS, Bool.and_eq_true, Bool.not_eq_true'] at h
    have ih := rising_pair x l h.2
    refine List.pairwise_cons.mpr ⟨fun y hy => ?_, ih⟩
    rcases List.mem_cons.mp hy with e | e
    · subst e; exact h.1
    · exact leS_trans h.1 ((List.pairwise_cons.mp ih).1 y e)
theorem sorted_pair {l : List Str} (h : sortedS l = true) : l.Pairwise leS := by
  cases l with
  | nil => exact List.Pairwise.nil
  | cons x l => exact rising_pair x l h
theorem sortS_one {l m n : List Str} (h1 : l.Perm n) (s1 : sortedS l = true) (h2 : m.Perm n) (s2 : sortedS m = true) : l = m :=
  perm_sorted_eq leS_anti (h1.trans h2.symm) (sorted_pair s1) (sorted_pair s2)
open Classical in
/-- the sorted list of these texts -/
noncomputable def sortS (l : List Str) : List Str := if h : ∃ ys : List Str, ys.Perm l ∧ sortedS ys = true then h.choose else l
theorem sortS_eq {l ys : List Str} (h : ys.Perm l) (s : sortedS ys = true) : ys = sortS l := by
  have e : ∃ ys : List Str, ys.Perm l ∧ sortedS ys = true := ⟨ys, h, s⟩
  unfold sortS
  rw [dif_pos e]
  exact sortS_one h s e.choose_spec.1 e.choose_spec.2
open Classical in
theorem sortS_perm (l : List Str) : (sortS l).Perm l := by
  unfold sortS
  by_cases e : ∃ ys : List Str, ys.Perm l ∧ sortedS ys = true
  · rw [dif_pos e]; exact e.choose_spec.1
  · rw [dif_neg e]
/-! ### sorted, as steps -/
def rSortedD : List V → Hp → VK → Prop := fun xs H Q => ∃ (a : Addr) (kvs : List (Key × V)) (ks : List Str), xs = [.ref a] ∧ Rd H a (.dK kvs) ∧ kvs.map (·.1) = ks.map Sum.inr ∧ ks.length < 64 ∧
    ∀ ys p, ys.Perm ks → sortedS ys = true → H p = none → Q (.ref p) (upd H p (.lst (ys.map V.str)))
theorem oSortedD {X : Cx} (hc : X.calm = true) : CallR X (.builtin "sorted") rSortedD := call_sortedD hc
section
variable {K : PySem.W.Frag} {H : Hp} {Q : VK} {σ : St}
theorem l_sortedS {F : List Addr} {H0 : Hp} {a : Addr} {xs : List Str} (r : Run F H0 H) (h : SqL K H a (xs.map V.str)) (z : xs.length < 64)
    (q : ∀ p H', H0 p = none → p ∉ F → H p = none → Run F H0 H' → H' p = some (.lst ((sortS xs).map V.str)) → Same H H' → Q (.ref p) H') : rSortedS K [.ref a] H Q := by
  refine ⟨a, xs, rfl, h, z, fun ys p h1 h2 hp => ?_⟩
  rw [sortS_eq h1 h2]
  exact l_new r q p hp
theorem l_sortedD {α : Type} {W : Str → α → V} {F : List Addr} {H0 : Hp} {a : Addr} {l : List (Str × α)} (r : Run F H0 H) (h : H a = some (.dK (sk W l))) (z : l.length < 64)
    (q : ∀ p H', H0 p = none → p ∉ F → H p = none → Run F H0 H' → H' p = some (.lst ((sortS (l.map (·.1))).map V.str)) → Same H H' → Q (.ref p) H') : rSortedD [.ref a] H Q := by
  refine ⟨a, _, l.map (·.1), rfl, .inl h, ?_, by rw [List.length_map]; exact z, fun ys p h1 h2 hp => ?_⟩
  · unfold sk
    rw [List.map_map, List.map_map]; rfl
  · rw [sortS_eq h1 h2]
    exact l_new r q p hp
theorem l_gT2 {n : Nat} {a : Addr} {i j : Nat} {x y : V} {R : St → Hp → Prop} (hn : [x, y].length = n) (h : SqT K H a [x, y]) (q : R ((σ.set i (some x)).set j (some y)) H) : gTup K n (gCons (gName i) (gCons (gName j) gNil)) (.ref a) σ H R :=
  ⟨a, [x, y], rfl, h, hn, x, [y], rfl, y, [], rfl, rfl, q⟩
theorem smallM {n : Nat} (h : n ≤ 1000000) : n < sizeLine := Nat.lt_of_le_of_lt h (by decide)
end
/-! ### texts to texts -/
abbrev sv : Str → Str → V := fun _ v => .str v
theorem putK_sv {l : List (Str × Str)} {k v : Str} : putK (sk sv l) (Sum.inr k : Key) (.str v) = sk sv (aput l k v) := putK_sk rfl fun _ _ _ => rfl
theorem valV_sv {l : List (Str × Str)} {k v : Str} (h : aget l k = some v) : valV (sk sv l) (Sum.inr k : Key) = some (.str v) := by rw [valV_sk, h]; rfl
theorem nodup_sub {α : Type} [DecidableEq α] : ∀ {l m : List α}, l.Nodup → (∀ x ∈ l, x ∈ m) → l.length ≤ m.length
  | [], m, _, _ => Nat.zero_le _
  | x :: l, m, h, s => by
    rw [List.nodup_cons] at h
    have mx := s x List.mem_cons_self
    have ih := nodup_sub (l := l) (m := m.erase x) h.2 fun y hy => (List.mem_erase_of_ne (fun e : y = x => h.1 (by rw [← e]; exact hy))).mpr (s y (List.mem_cons_of_mem _ hy))
    rw [List.length_erase_of_mem mx] at ih
    have := List.length_pos_of_mem mx
    show l.length + 1 ≤ m.length
    omega
theorem adrop_none {κ α : Type} [DecidableEq κ] {l : List (κ × α)} {k : κ} (h : aget l k = none) : adrop l k = l := by
  unfold adrop
  rw [List.filter_eq_self]
  intro p hp
  have := aget_none.mp h
  simp only [decide_eq_true_eq]
  exact fun e => this (e ▸ List.mem_map_of_mem (f := (·.1)) hp)
/-! ### pairs of texts that are plain -/
open Classical in
noncomputable def ssOf (p : Str × Str) : SS := if h : Tx 1000 p.1 ∧ Tx 1000 p.2 then ⟨p.1, p.2, h.1, h.2⟩ else ⟨Str.empty, Str.empty, Tx.nil.mono (by decide), Tx.nil.mono (by decide)⟩
theorem ssOf_eq {p : Str × Str} (h : Tx 1000 p.1 ∧ Tx 1000 p.2) : ssOf p = ⟨p.1, p.2, h.1, h.2⟩ := dif_pos h
def PTx (l : List (Str × Str)) : Prop := ∀ p ∈ l, Tx 1000 p.1 ∧ Tx 1000 p.2
theorem PTx.put {l : List (Str × Str)} {k v : Str} (h : PTx l) (hk : Tx 1000 k) (hv : Tx 1000 v) : PTx (aput l k v) := fun p hp => (mem_aput hp).elim (fun e => by rw [e]; exact ⟨hk, hv⟩) fun z => h p z.1
theorem PTx.drop {l : List (Str × Str)} {k : Str} (h : PTx l) : PTx (adrop l k) := fun p hp => h p (mem_adrop.mp hp).1
/-- (key, value) of a table, by its keys in order -/
noncomputable def sortedPairs (l : List (Str × Str)) : List SS := (sortS (l.map (·.1))).map fun k => ssOf (k, (aget l k).getD Str.empty)
theorem foldl_snoc {α β : Type} {f : β → α → β} {b : β} {l : List α} {i : Nat} {x : α} (h : l[i]? = some x) : (l.take (i + 1)).foldl f b = f ((l.take i).foldl f b) x := by
  rw [take_succ h, List.foldl_append]; rfl
theorem getM {α : Type} {f : α → V} {l : List α} {i : Nat} {x : V} (h : (l.map f)[i]? = some x) : ∃ a, l[i]? = some a ∧ x = f a := by
  rw [List.getElem?_map] at h
  cases e : l[i]? with
  | none => rw [e] at h; cases h
  | some a => rw [e] at h; exact ⟨a, rfl, (Option.some.inj h).symm⟩
theorem take_map_snoc {α β : Type} {f : α → β} {l : List α} {i : Nat} {x : α} (h : l[i]? = some x) : (l.take (i + 1)).map f = (l.take i).map f ++ [f x] := by
  rw [take_succ h, List.map_append]; rfl
/-! ### more steps over lists -/
section
variable {K : PySem.W.Frag} {H : Hp} {Q : VK} {σ : St} {te : TE}
def LRev (K : PySem.W.Frag) (x : V) (H : Hp) (Q : VK) : Prop := ∃ a xs, x = .ref a ∧ SqL K H a xs ∧ LNew (.lst xs.reverse) H Q
theorem k_revL (h : te σ H fun x H1 => LRev K x H1 Q) : tRevL K te σ H Q := h
theorem l_rev {a : Addr} {xs : List V} (h : SqL K H a xs) (q : LNew (.lst xs.reverse) H Q) : LRev K (.ref a) H Q := ⟨a, xs, rfl, h, q⟩
theorem l_cat {l b : Addr} {xs zs : List V} (h1 : H l = some (.lst xs)) (h2 : H b = some (.lst zs)) (z : xs.length + zs.length ≤ 1000000) (q : LNew (.lst (xs ++ zs)) H Q) : rCat (.ref l) (.ref b) H Q :=
  ⟨l, b, xs, zs, rfl, rfl, h1, h2, Nat.le_trans z (by decide), q⟩
theorem l_in {neg : Bool} {x : V} {p : Addr} {xs : List V} (h : SqL K H p xs) (fx : flatV x = true) (fs : xs.all flatV = true) (q : ∀ b, Q (.bl b) H) : rIn K neg x (.ref p) H Q := ⟨p, xs, rfl, .inl h, fx, fs, q _⟩
end
theorem revT {f : α → List V} {H : Hp} : ∀ {ys : List V} {xs : List α}, Paired (IsT f H) ys xs → Paired (IsT f H) ys.reverse xs.reverse
  | _, _, .nil => .nil
  | _, _, .cons a t => by rw [List.reverse_cons, List.reverse_cons]; exact snocT (revT t) a
theorem cutT {f : α → List V} {H : Hp} {ys : List V} {xs : List α} {lo hi : Option Int} (h : Paired (IsT f H) ys xs) : ∃ a b : Nat, Paired (IsT f H) (cutV ys lo hi) ((xs.drop a).take b) := ⟨_, _, takeT _ (dropT _ h)⟩
/-! ### C(k = v, ..), C(): no value by place -/
section
variable {X : Cx} {CX : CXT} {k n : Nat} {f C : Addr} {fd : FuncData} {ps ks : List Str} {sp : Sp} {E : St → XK} {x : Str} {p pos : Pos} {kws : List Keyword} {tk : TA} {g : List Value → List Value → List Value} {gV : List V → List V → List V}
theorem pe_makeG0 (M : Mk X.K C f) (F : FnOk X.prog X.w X.K X.mg X.base CX k f fd ps sp) (hr : Room (k + 1) X.A) (hg : Gl X x) (hm : X.mg x = some (.ref C)) (hb : KBn X.K fd ps 1 ks g gV)
    (hx : ∀ σ, PassesAt CX X σ (E σ)) (hkw : PK X kws tk) (hall : (backToKw pos (keywordEach kws X.env)).all (·.1.isSome) = true := by rfl) (hks : (backToKw pos (keywordEach kws X.env)).filterMap (·.1) = ks := by rfl)
    (hdb : (x == ("__debug__" : Str)) = false := by decide)
    (hpl : ((backTo pos (starEach [] X.env)).any (·.1) || (backToKw pos (keywordEach kws X.env)).any (·.1.isNone)) = false := by rfl) :
    PE X (.Call (.Name x p) [] kws pos) (tMakeG C 0 ks.length sp gV E tNil tk) := by
  refine ⟨fun pins s σ H Q I h => ?_⟩
  refine wpAny_Call_Name_kw (ld_glob I hg hm ?_ hdb)
  refine PySem.W.callWith_KW0 (h₀ := X.base) I.ok.mod.kin M.kp hall ?_ hpl
  refine thn (hkw.run pos pins s σ H _ I h) fun ws s2 ⟨zs, H2, I2, rz, l1, l2, q2⟩ => ⟨I2.kIn, ?_⟩
  rw [hks]
  exact run_makeG (us := []) (vs := []) M F hr hb (hx σ) I2 .nil rz rfl l2 q2
end
theorem k_lens {a b n m : Nat} {p : Prop} (h1 : a = n) (h2 : b = m) (q : p) : a = n ∧ b = m ∧ p := ⟨h1, h2, q⟩
def rTupQ (K : PySem.W.Frag) : List V → Hp → VK → Prop := fun xs H Q => ∃ p ys, xs = [.ref p] ∧ ((SqL K H p ys ∧ ∀ l, H l = none → Q (.ref l) (upd H l (.tup ys))) ∨ (SqT K H p ys ∧ Q (.ref p) H))
def rInt1 : List V → Hp → VK → Prop := fun xs H Q => (∃ i, xs = [.int i] ∧ Q (.int i) H) ∨ ∃ k, xs = [.bl k] ∧ Q (.int (if k then 1 else 0)) H
theorem oTup {X : Cx} : CallR X (.type "tuple") (rTupQ X.K) := call_tuple_of
theorem oInt {X : Cx} : CallR X (.type "int") rInt1 := call_int1
section
variable {K : PySem.W.Frag} {H : Hp} {Q : VK}
theorem l_tupL {a : Addr} {xs : List V} (h : SqL K H a xs) (q : LNew (.tup xs) H Q) : rTupQ K [.ref a] H Q := ⟨a, xs, rfl, .inl ⟨h, q⟩⟩
theorem l_intB {b : Bool} (q : Q (.int (if b then 1 else 0)) H) : rInt1 [.bl b] H Q := .inr ⟨b, rfl, q⟩
end
end LW

set_option maxHeartbeats 4000000
namespace LW
open PySem PySem.Spec PyProof.Rows L2
/-! ### tables whose values are tuples -/
abbrev vv : Str → V → V := fun _ v => v
abbrev fKV (x : Str × Int) : List V := [.str x.1, .int x.2]
section
variable {α : Type} {f : α → List V}
def KeyIs (f : α → List V) (H : Hp) (a : Str × V) (b : Str × α) : Prop := a.1 = b.1 ∧ IsT f H a.2 b.2
theorem KeyIs.keep {H H' : Hp} (k : TupK H H') {a : Str × V} {b : Str × α} (h : KeyIs f H a b) : KeyIs f H' a b := ⟨h.1, h.2.keep k⟩
theorem keepK {H H' : Hp} {kl : List (Str × V)} {l : List (Str × α)} (k : TupK H H') (h : Paired (KeyIs f H) kl l) : Paired (KeyIs f H') kl l := h.mono fun _ _ => KeyIs.keep k
theorem kl_none {H : Hp} {kl : List (Str × V)} {l : List (Str × α)} (h : Paired (KeyIs f H) kl l) {k : Str} (e : aget l k = none) : aget kl k = none := by
  induction h with
  | nil => rfl
  | cons a t ih =>
    rw [aget_cons] at e ⊢
    rw [a.1]
    split at e
    · cases e
    · rename_i c
      rw [if_neg c]; exact ih e
theorem kl_some {H : Hp} {kl : List (Str × V)} {l : List (Str × α)} (h : Paired (KeyIs f H) kl l) {k : Str} {x : α} (e : aget l k = some x) : ∃ v, aget kl k = some v ∧ IsT f H v x := by
  induction h with
  | nil => cases e
  | cons a t ih =>
    rw [aget_cons] at e ⊢
    rw [a.1]
    split at e
    · rename_i c
      rw [if_pos c]
      exact ⟨_, rfl, by rw [← Option.some.inj e]; exact a.2⟩
    · rename_i c
      rw [if_neg c]; exact ih e
theorem kl_isSome {H : Hp} {kl : List (Str × V)} {l : List (Str × α)} (h : Paired (KeyIs f H) kl l) {k : Str} : (aget kl k).isSome = (aget l k).isSome := by
  cases e : aget l k with
  | none => rw [kl_none h e]; rfl
  | some x => obtain ⟨v, ev, _⟩ := kl_some h e; rw [ev]; rfl
theorem kl_drop {H : Hp} {kl : List (Str × V)} {l : List (Str × α)} (h : Paired (KeyIs f H) kl l) {k : Str} : Paired (KeyIs f H) (adrop kl k) (adrop l k) := by
  unfold adrop
  induction h with
  | nil => exact .nil
  | cons a t ih =>
    rw [List.filter_cons, List.filter_cons, a.1]
    split
    · exact .cons a ih
    · exact ih
theorem kl_map {H : Hp} {kl : List (Str × V)} {l : List (Str × α)} (h : Paired (KeyIs f H) kl l) {k : Str} {v : V} {x : α} (hv : IsT f H v x) :
    Paired (KeyIs f H) (kl.map fun p => if p.1 = k then (p.1, v) else p) (l.map fun p => if p.1 = k then (p.1, x) else p) := by
  induction h with
  | nil => exact .nil
  | cons a t ih =>
    rw [List.map_cons, List.map_cons]
    refine .cons ?_ ih
    rw [a.1]
    split
    · exact ⟨rfl, hv⟩
    · exact a
theorem kl_put {H : Hp} {kl : List (Str × V)} {l : List (Str × α)} (h : Paired (KeyIs f H) kl l) {k : Str} {v : V} {x : α} (hv : IsT f H v x) : Paired (KeyIs f H) (aput kl k v) (aput l k x) := by
  cases e : aget l k with
  | none => rw [aput_new e, aput_new (kl_none h e)]; exact Paired.snoc h ⟨rfl, hv⟩
  | some y =>
    obtain ⟨u, eu, _⟩ := kl_some h e
    rw [aput_old e, aput_old eu]
    exact kl_map h hv
theorem kl_keys {H : Hp} {kl : List (Str × V)} {l : List (Str × α)} (h : Paired (KeyIs f H) kl l) : kl.map (·.1) = l.map (·.1) := by
  induction h with
  | nil => rfl
  | cons a t ih => rw [List.map_cons, List.map_cons, a.1, ih]
theorem kl_len {H : Hp} {kl : List (Str × V)} {l : List (Str × α)} (h : Paired (KeyIs f H) kl l) : kl.length = l.length := Paired.length h
theorem kl_get {H : Hp} {kl : List (Str × V)} {l : List (Str × α)} (h : Paired (KeyIs f H) kl l) {i : Nat} {p : Str × V} (e : kl[i]? = some p) : ∃ q, l[i]? = some q ∧ KeyIs f H p q := by
  induction h generalizing i with
  | nil => simp at e
  | cons a t ih =>
    cases i with
    | zero => simp at e; subst e; exact ⟨_, rfl, a⟩
    | succ i => obtain ⟨q, e1, e2⟩ := ih (i := i) (by simpa using e); exact ⟨q, by simpa using e1, e2⟩
end
theorem putK_vv {l : List (Str × V)} {k : Str} {v : V} : putK (sk vv l) (Sum.inr k : Key) v = sk vv (aput l k v) := putK_sk rfl fun _ _ _ => rfl
theorem valV_vv {l : List (Str × V)} {k : Str} {v : V} (h : aget l k = some v) : valV (sk vv l) (Sum.inr k : Key) = some v := by rw [valV_sk, h]; rfl
theorem isSome_vv {l : List (Str × V)} {k : Str} : (valV (sk vv l) (Sum.inr k : Key)).isSome = (aget l k).isSome := by rw [valV_sk]; cases aget l k <;> rfl
/-! ### notes: rows without their numbers -/
structure Nt where
  t : Int
  w : Str
  k : Str
  v : Str
  ow : Tx 1000 w
  ok : Tx 1000 k
  ov : Tx 1000 v
def Nt.row (x : Nt) (n : Int) : Row := ⟨n, x.t, x.w, x.k, x.v, x.ow, x.ok, x.ov⟩
open Classical in
noncomputable def ntOf (t : Int) (w k v : Str) : Nt := if h : Tx 1000 w ∧ Tx 1000 k ∧ Tx 1000 v then ⟨t, w, k, v, h.1, h.2.1, h.2.2⟩ else ⟨t, Str.empty, Str.empty, Str.empty, Tx.nil.mono (by decide), Tx.nil.mono (by decide), Tx.nil.mono (by decide)⟩
theorem ntOf_eq {t : Int} {w k v : Str} (hw : Tx 1000 w) (hk : Tx 1000 k) (hv : Tx 1000 v) : ntOf t w k v = ⟨t, w, k, v, hw, hk, hv⟩ := dif_pos ⟨hw, hk, hv⟩
def noteR (rows : List Row) (x : Nt) : List Row := rows ++ [x.row (rows.length + 1)]
end LW

set_option maxHeartbeats 4000000
namespace LW
open PySem PySem.Spec PyProof.Rows L2
/-! ### sorted of texts, of any length -/
def rSortS (K : PySem.W.Frag) : List V → Hp → VK → Prop := fun vs H Q => ∃ (a : Addr) (xs : List Str), vs = [.ref a] ∧ SqL K H a (xs.map V.str) ∧ ∀ (ys : List Str) (p : Addr), ys.Perm xs → sortedS ys = true → H p = none → Q (.ref p) (upd H p (.lst (ys.map V.str)))
def rSortD : List V → Hp → VK → Prop := fun xs H Q => ∃ (a : Addr) (kvs : List (Key × V)) (ks : List Str), xs = [.ref a] ∧ Rd H a (.dK kvs) ∧ kvs.map (·.1) = ks.map Sum.inr ∧ ∀ ys p, ys.Perm ks → sortedS ys = true → H p = none → Q (.ref p) (upd H p (.lst (ys.map V.str)))
section
variable {X : Cx}
theorem oSortS : CallR X (.builtin "sorted") (rSortS X.K) := by
  rintro pins s σ H vs us Q I r ⟨a, xs, rfl, hq, q⟩
  obtain ⟨its, vl, il, zl⟩ := I.list hq
  rw [Vals.ref1 r]
  have z0 := vl.length
  rw [List.length_map] at z0
  refine sorted_strsAny il.isList vl.strs (by have := zl; rw [List.length_map] at this; omega) fun out ys j1 j2 j3 => ?_
  obtain ⟨w1, w2⟩ := PyProof.Rows.sortedAll_at s.heap its out
  have zz : (ys.map V.str).length ≤ sizeLine := by rw [List.length_map, j2.length_eq]; have := zl; rw [List.length_map] at this; exact this
  have nn := I.hok.fresh (Nat.le_succ s.heap.objs.size)
  refine ⟨.ref _, upd H (s.heap.objs.size + 1) (.lst (ys.map V.str)), ?_, rfl, q ys _ j2 j3 nn⟩
  exact I.laid (t' := s.toks) (fun _ _ => sortedAll_old) (Nat.le_succ _) ⟨zz, out.toList, w1, vals_of_strs j1, w2⟩
theorem oSortD (calm : X.calm = true) : CallR X (.builtin "sorted") rSortD := by
  rintro pins s σ H vs us Q I r ⟨a, kvs, ks, rfl, dd0, hk, q⟩
  obtain ⟨u, rfl, ru⟩ := vals1 r
  cases ru
  obtain ⟨zd, lo, ps, rel, dd⟩ := dk_rd I.hok dd0
  obtain ⟨ep, hat⟩ := dd.dictAt
  have hks : ps.map (·.1) = ks.map Sum.inr := rel.keys.symm.trans hk
  have ln : ps.length = ks.length := by
    have t := congrArg List.length hks
    rwa [List.length_map, List.length_map] at t
  have zs : ps.length ≤ sizeLine := by
    have t := congrArg List.length hk
    rw [List.length_map, List.length_map] at t
    rw [ln, ← t]
    exact zd
  refine Calls.call_function_entry PyProof.Rows.kind_sorted plain_sorted entry_sorted (PyProof.Rows.args_sorted1 _) ?_
  unfold Builtin.«sorted»
  refine wpAny_bind (m := checkCount "sorted" 1 1 _) (wpAny_pure (wpAny_bind ?_))
  refine PySem.W.kdu_collect (A := X.A.in1) (PySem.W.kdl_dict (knd := mixKind X.prog X.w) (kvs := ps) (ep := ep) lo) (I.ok.hd calm) hat zs fun h1 tk cs kk hc => ?_
  have lc : cs.toList.length = ks.length := by rw [Array.length_toList, hc.1, ln]
  have st : StrsAre cs.toList ks := strs_at lc fun j v e => by
    obtain ⟨k, x, g1, g2⟩ := hc.2 j v (by rw [← Array.getElem?_toList]; exact e)
    have g3 : (ps.map (·.1))[j]? = some k := by rw [List.getElem?_map, g1]; rfl
    rw [hks, List.getElem?_map] at g3
    cases g4 : ks[j]? with
    | none => rw [g4] at g3; cases g3
    | some y =>
      rw [g4] at g3
      obtain rfl : Sum.inr y = k := Option.some.inj g3
      obtain ⟨t, tv⟩ := Value.isStrOf_shape (x := y) (v := v) g2
      exact ⟨y, t, rfl, tv⟩
  have J : Inv X pins σ H { s with heap := h1, toks := tk } := I.kept kk
  have zc : cs.toList.length ≤ sizeLine := by rw [lc, ← ln]; exact zs
  refine wpAny_bind (wpAny_newList ?_ zc)
  have at1 : (h1.push (seqObj "list" cs.toList.toArray 0)).get? h1.objs.size = some (seqObj "list" cs.toList.toArray 0) := Heap.get?_push_size _ rfl
  show wpAny _ _ _ _ _ { s with heap := h1.push (seqObj "list" cs.toList.toArray 0), toks := tk }
  refine wpAny_bind (wpAny_holding (wpAny_call_entry PyProof.Rows.slot_list_sort ⟨_, at1, rfl⟩ entry_list_sort ?_ (args_list_sort _)))
  refine list_sort_treeKAny strKind_oneLt (s := { s with heap := h1.push (seqObj "list" cs.toList.toArray 0), toks := tk }) at1 st.keysOf (fun v₁ v₂ rest e => keyKind_strs (by rw [← e]; exact st)) zc fun st1 hp hs => ⟨_, rfl, ?_⟩
  obtain ⟨ys, m1, m2, m3⟩ := sorted_out_str st hp hs
  obtain ⟨e2, at2⟩ := sortedHeap_at (vs := cs.toList) (out := (arrOf st1).map (·.2)) at1
  have zy : (ys.map V.str).length ≤ sizeLine := by rw [List.length_map, m2.length_eq, ← ln]; exact zs
  have nw := J.hok.fresh (Nat.le_refl h1.objs.size)
  refine wpAny_pure ⟨_, rfl, .ref h1.objs.size, upd H h1.objs.size (.lst (ys.map V.str)), J.laid (t' := tk) (fun b u e => ?_) (Nat.le_refl _) ?_, rfl, q ys _ m2 m3 nw⟩
  · have lt := Heap.lt_size e
    rw [sortedHeap_old (Nat.ne_of_lt lt) (by rw [size_push']; exact Nat.lt_succ_of_lt lt)]
    exact Heap.get?_push_of_some _ e
  · show ObjOk X.prog X.w _ _ _ (.lst (ys.map V.str))
    exact ⟨zy, ((arrOf st1).map (·.2)).toList, e2, vals_of_strs m1, by rw [Array.toArray_toList]; exact at2⟩
end
section
variable {K : PySem.W.Frag} {H : Hp} {Q : VK} {σ : St}
theorem l_sortS {F : List Addr} {H0 : Hp} {a : Addr} {xs : List Str} (r : Run F H0 H) (h : SqL K H a (xs.map V.str))
    (q : ∀ p H', H0 p = none → p ∉ F → H p = none → Run F H0 H' → H' p = some (.lst ((sortS xs).map V.str)) → Same H H' → Q (.ref p) H') : rSortS K [.ref a] H Q := by
  refine ⟨a, xs, rfl, h, fun ys p h1 h2 hp => ?_⟩
  rw [sortS_eq h1 h2]
  exact l_new r q p hp
theorem l_sortD {α : Type} {W : Str → α → V} {F : List Addr} {H0 : Hp} {a : Addr} {l : List (Str × α)} (r : Run F H0 H) (h : H a = some (.dK (sk W l)))
    (q : ∀ p H', H0 p = none → p ∉ F → H p = none → Run F H0 H' → H' p = some (.lst ((sortS (l.map (·.1))).map V.str)) → Same H H' → Q (.ref p) H') : rSortD [.ref a] H Q := by
  refine ⟨a, _, l.map (·.1), rfl, .inl h, ?_, fun ys p h1 h2 hp => ?_⟩
  · unfold sk
    rw [List.map_map, List.map_map]; rfl
  · rw [sortS_eq h1 h2]
    exact l_new r q p hp
end
end LW

set_option maxHeartbeats 4000000
namespace LW
open PySem PySem.Spec PyProof.Rows L2
/-! ### min(xs, default=d) of a list of numbers -/
section
variable {prog : Program} {w : World} {A : Around} {E : Value → Shared → Prop} {s : Shared}
theorem minD_raw {l : Addr} {its : List Value} {ns : List Int} {d : Value} {Q : Value → Shared → Prop} (hh : A.handled = none) (hl : s.heap.IsList l its.toArray) (hi : IntsAre its ns)
    (h0 : ns = [] → ∀ h' tk, (∀ b o, s.heap.get? b = some o → h'.get? b = some o) → Q d { s with heap := h', toks := tk })
    (h : ∀ h' tk M t', (∀ b o, s.heap.get? b = some o → h'.get? b = some o) → M ∈ ns → (∀ a, a ∈ ns → M ≤ a) → Q (.int M t') { s with heap := h', toks := tk }) :
    wpAny (model prog w) A (call (.builtin "min") [.ref l] [(Str.ofString "default", d)]) Q E s := by
  obtain ⟨xs, e⟩ := hi.allInts.items
  have hn : numsOf (intItems xs).toList = ns := by rw [← e]; exact hi.numsOf
  rw [nums_intItems] at hn
  subst hn
  rw [e] at hl
  have hz : (intItems xs).size = xs.size := by simp [intItems]
  refine call_min_walkD (PySem.W.iter_listW (A := A.in1) hh hl fun s₂ e W st hfp hw hk => ?_)
  refine ⟨_, _, _, _, _, _, _, s.heap, (fun i j => decide (numAt xs i < numAt xs j)), rfl, W, st, hfp, hw, hk, fun hz0 s' m => ?_, fun hp => ⟨fun i j vi vj s Q E _ hi hj h => CmpOf.ints_lt (A := A.in1) (numAt xs) (fun _ _ => intItems_at) i j vi vj s Q E hi hj h, fun v s' hP m => ?_⟩⟩
  · obtain ⟨h', tk, rfl, hk'⟩ := PySem.W.moved_old e rfl m
    refine h0 ?_ h' tk hk'
    have : xs.size = 0 := by omega
    rw [Array.size_eq_zero_iff.mp this]
    rfl
  · obtain ⟨h', tk, rfl, hk'⟩ := PySem.W.moved_old e rfl m
    obtain ⟨t, rfl⟩ := intItems_at hP
    obtain ⟨h1, h2⟩ := argBest_lt (numAt xs) (xs.size - 1)
    rw [hz] at hp ⊢
    refine h h' tk _ t hk' ?_ fun a ha => ?_
    · rw [numAt_eq]; exact PySem.getD_mem (by rw [List.length_map, Array.length_toList]; omega)
    · obtain ⟨j, hj, rfl⟩ := mem_getD ha
      rw [List.length_map, Array.length_toList] at hj
      rw [← numAt_eq]; exact h2 j (by omega)
end
/-- min(xs, default=d): the default, or a least one -/
def rMinD (K : PySem.W.Frag) : List V → V → Hp → VK → Prop := fun vs d H Q => ∃ (a : Addr) (ns : List Int), vs = [V.ref a] ∧ SqL K H a (ns.map V.int) ∧ (ns = [] → Q d H) ∧ ∀ m, m ∈ ns → (∀ y, y ∈ ns → m ≤ y) → Q (.int m) H
def tMinD (K : PySem.W.Frag) (ta : TA) (td : TE) : TE := fun σ H Q => ta σ H fun vs H1 => td σ H1 fun d H2 => rMinD K vs d H2 Q
section
variable {X : Cx} {e ed : Expr} {p pos kpos : Pos} {ta : TA} {td : TE}
theorem pe_minD (hc : X.calm = true) (hg : Gl X "min") (hm : X.mg "min" = none) (ha : PA X [e] ta) (hd : PE X ed td)
    (he : starEach [e] X.env = [(false, eval e X.env)] := by rfl) : PE X (.Call (.Name "min" p) [e] [⟨some "default", ed, kpos⟩] pos) (tMinD X.K ta td) := by
  refine ⟨fun pins s σ H Q I h => ?_⟩
  refine wpAny_Call_Name_kw (ld_blt I hg hm (u := .builtin "min") (by first | rfl | decide +kernel) ?_ (by first | decide +kernel | decide) (by first | decide +kernel | decide))
  refine callWith_kw (thn (ha.run pos pins s σ H _ I h) fun us s1 ⟨vs, H1, I1, r, q⟩ => ?_) (by rw [he]; rfl) (by rw [he]; rfl) rfl rfl
  refine thn ((pk_cons (kpos := kpos) (nm := some "default") hd pk_nil).run pos pins s1 σ H1 (fun zs H2 => match zs with | [d] => rMinD X.K vs d H2 Q | _ => False) I1 q) fun ws s2 ⟨zs, H2, I2, rz, q2⟩ => ?_
  match zs, rz, q2 with
  | [d], rz, q2 =>
    obtain ⟨a, ns, rfl, hs, q0, qm⟩ := q2
    obtain ⟨u, rfl, ru⟩ := vals1 rz
    obtain ⟨its, rv, hl, _⟩ := I2.list hs
    rw [Vals.ref1 r]
    exact minD_raw (I2.ok.hd hc) hl.isList rv.ints (fun hn h' tk hk => ⟨d, H2, I2.kept hk, ru, q0 hn⟩) fun h' tk m t' hk h1 h2 => ⟨.int _, H2, I2.kept hk, ⟨_, rfl⟩, qm m h1 h2⟩
end
section
variable {K : PySem.W.Frag} {σ : St} {H : Hp} {Q : VK} {ta : TA} {td : TE}
theorem k_minD (h : ta σ H fun vs H1 => td σ H1 fun d H2 => rMinD K vs d H2 Q) : tMinD K ta td σ H Q := h
theorem l_minD {a : Addr} {ns : List Int} {d : V} (h : SqL K H a (ns.map V.int)) (q0 : ns = [] → Q d H) (qm : ∀ m, m ∈ ns → (∀ y, y ∈ ns → m ≤ y) → Q (.int m) H) : rMinD K [.ref a] d H Q := ⟨a, ns, rfl, h, q0, qm⟩
end
end LW
namespace LW
open PySem PySem.Spec PyProof.Rows L2
/-! ### xs[i] = .. of a list; over the keys of a dict, statements -/
section
variable {K : PySem.W.Frag} {nx bk ct : St → Hp → Prop} {rt : VK} {σ : St} {H : Hp} {Q : VK} {te to ti td : TE} {tb : TS} {g : TG} {v : V}
theorem k_asgS (h : te σ H fun v H1 => to σ H1 fun o H2 => ti σ H2 fun i H3 => rSetL o i v H3 fun H4 => nx σ H4) : tAsg te (gSub to ti rSetL) ⟨nx, rt, bk, ct⟩ σ H := h
theorem l_setL {F : List Addr} {H0 : Hp} {a : Addr} {xs ys : List V} {i : Int} {j : Nat} {R : Hp → Prop} (r : Run F H0 H) (h : H a = some (.lst xs)) (e : ixN xs.length i = some j) (e2 : xs.set j v = ys) (w : a ∈ F ∨ H0 a = none)
    (q : ∀ H', Run F H0 H' → H' a = some (.lst ys) → (∀ b, b ≠ a → H' b = H b) → R H') : rSetL (.ref a) (.int i) v H R :=
  ⟨a, xs, i, j, rfl, rfl, h, e, q _ (r.wr h (by intro _ z; cases z) w) (by rw [← e2]; exact upd_same) fun b n => upd_ne n⟩
/-- locked or not -/
def frzO (z : Option Obj) (u : HO) : HO := match z with | none => u | some od => .frz od u
theorem frzO_nt {z : Option Obj} {kvs : List (Key × V)} : ∀ xs, frzO z (.dK kvs) ≠ .tup xs := fun xs h => by cases z <;> cases h
theorem l_dgetZ {a : Addr} {z : Option Obj} {kvs : List (Key × V)} {n : Int} {y : V} (h : H a = some (frzO z (.dK kvs))) (e : valV kvs (Sum.inl n : Key) = some y) (q : Q y H) : LDGet (.ref a) (.int n) H Q := by
  cases z with
  | none => exact l_dgetI h e q
  | some od => exact l_dgetIF h e q
theorem l_forK {d : Addr} {kvs : List (Key × V)} (hd : H d = some (.dK kvs)) (htd : ∀ od (R : VK), R (.ref d) (upd H d (.frz od (.dK kvs))) → td σ (upd H d (.frz od (.dK kvs))) R)
    (Pv : Obj → Nat → St → Hp → Prop) (h0 : ∀ od, Pv od 0 σ (upd H d (.frz od (.dK kvs)))) (hf : ∀ od i σ H, Pv od i σ H → H d = some (.frz od (.dK kvs)))
    (hs : ∀ od i k y σ H (rt' : VK) (nx' : St → Hp → Prop), kvs[i]? = some (k, y) → Pv od i σ H → (∀ v H', rt v (upd H' d (.dK kvs)) → H' d = some (.frz od (.dK kvs)) → rt' v H') → g (kV k) σ H fun σ2 H2 => tb ⟨Pv od (i + 1), rt', nx', Pv od (i + 1)⟩ σ2 H2)
    (hn : ∀ od σ H, Pv od kvs.length σ H → nx σ (upd H d (.dK kvs))) : tLock (tFor (iKeys td) g tb) ⟨nx, rt, bk, ct⟩ σ H := by
  refine ⟨d, .dK kvs, hd, trivial, fun od => ?_⟩
  refine htd od _ ⟨d, od, rfl, .inl ⟨kvs, upd_same, ?_⟩⟩
  refine ⟨fun i m σ H1 => m = kvs.length - i ∧ i ≤ kvs.length ∧ Pv od i σ H1, ⟨kvs.length, by simp, Nat.zero_le _, h0 od⟩, ?_⟩
  rintro i m σ1 H1 ⟨rfl, hi, p⟩
  have f := hf od i σ1 H1 p
  by_cases hlt : i < kvs.length
  · refine .inr ⟨⟨f, hlt⟩, Pv od (i + 1), fun σ' H' p' => ⟨kvs.length - (i + 1), by omega, rfl, hlt, p'⟩, fun x H' y => ?_⟩
    obtain ⟨e, k, v, ek, ex⟩ := y
    subst e ex
    exact hs od i k v σ1 H' _ _ ek p fun v H2 q f2 => ⟨f2, q⟩
  · have e : i = kvs.length := by omega
    subst e
    exact .inl ⟨⟨f, Nat.le_refl _⟩, f, hn od σ1 H1 p⟩
end
end LW
namespace LW
open PySem PySem.Spec PyProof.Rows L2
section
variable {σ : St} {H : Hp} {Q : VK} {r r' : R2} {ta tb tc : TE}
theorem k_chain (h : ta σ H fun x H1 => tb σ H1 fun y H2 => r x y H2 fun z H3 => ∃ k, z = .bl k ∧ if k = true then tc σ H3 fun w' H4 => r' y w' H4 Q else Q (.bl false) H3) : tChain r r' ta tb tc σ H Q := h
end
end LW

set_option maxHeartbeats 4000000
namespace LW
open PySem PySem.Spec PyProof.Rows L2
/-! ### isinstance of an object of one's own -/
structure InsK (K : PySem.W.Frag) (C : Addr) : Prop where
  ha : PySem.W.findIn K (.ref C) "__class__" = some (some (.builtin "object.__class__"))
  hn : PySem.W.specialIn K (.builtin "object.__class__") "__get__" = some (some (.builtin "getset_descriptor.__get__"))
  htk : PySem.W.takesIn K (.builtin "object.__class__") = some true
  hm : PySem.W.mroIn K C (.type "object") = some true
def insB (x : Str) (K : PySem.W.Frag) : Bool := He.eqO (PySem.W.findIn K (.ref (He.ga K x)) "__class__") (some (some (.builtin "object.__class__"))) && (He.eqO (PySem.W.specialIn K (.builtin "object.__class__") "__get__") (some (some (.builtin "getset_descriptor.__get__"))) &&
  (decide (PySem.W.takesIn K (.builtin "object.__class__") = some true) && decide (PySem.W.mroIn K (He.ga K x) (.type "object") = some true)))
theorem insK_of {x : Str} {K : PySem.W.Frag} (h : insB x K = true) : InsK K (He.ga K x) := by
  obtain ⟨h1, h⟩ := He.ba h
  obtain ⟨h2, h⟩ := He.ba h
  obtain ⟨h3, h4⟩ := He.ba h
  exact ⟨He.eqO_ok h1, He.eqO_ok h2, of_decide_eq_true h3, of_decide_eq_true h4⟩
theorem l_isiO {K : PySem.W.Frag} {H : Hp} {Q : VK} {a C dx : Addr} {fs : List (Str × V)} (h : H a = some (.ins C dx fs)) (c : Cls K C) (i : InsK K C) (q : Q (.bl true) H) : rIsi K [.ref a, .ref C] H Q :=
  ⟨_, _, _, _, true, rfl, .own C, .base (.ins h c i.ha i.hn i.htk i.hm), if_pos (beq_self_eq_true _), q⟩
theorem oTupK {X : Cx} {K : PySem.W.Frag} (e : X.K = K) : CallR X (.type "tuple") (rTupQ K) := e ▸ oTup
theorem op_eqDK {X : Cx} {K : PySem.W.Frag} (e : X.K = K) (hu : X.A.units + 64 < cLine) : OpR X (compareOp .Eq) (rEqD K) := e ▸ op_eqD hu
theorem op_neDK {X : Cx} {K : PySem.W.Frag} (e : X.K = K) (hu : X.A.units + 64 < cLine) : OpR X (compareOp .NotEq) (rNeD K) := e ▸ op_neD hu
theorem ba1 {a b : Bool} (h : (a && b) = true) : a = true := (He.ba h).1
theorem ba2 {a b : Bool} (h : (a && b) = true) : b = true := (He.ba h).2
section
variable {nx bk ct : St → Hp → Prop} {rt : VK} {σ : St} {H : Hp} {td : TE} {tb : TS} {g : TG} {v : V}
theorem l_forI {α : Type} {V' : Int → α → V} {l : List (Int × α)} {d : Addr} (hd : H d = some (.dK (ik V' l))) (htd : ∀ od (R : VK), R (.ref d) (upd H d (.frz od (.dK (ik V' l)))) → td σ (upd H d (.frz od (.dK (ik V' l)))) R)
    (Pv : Obj → Nat → St → Hp → Prop) (h0 : ∀ od, Pv od 0 σ (upd H d (.frz od (.dK (ik V' l))))) (hf : ∀ od i σ H, Pv od i σ H → H d = some (.frz od (.dK (ik V' l))))
    (hs : ∀ od i p σ H (rt' : VK) (nx' : St → Hp → Prop), l[i]? = some p → Pv od i σ H → (∀ v H', rt v (upd H' d (.dK (ik V' l))) → H' d = some (.frz od (.dK (ik V' l))) → rt' v H') → g (.int p.1) σ H fun σ2 H2 => tb ⟨Pv od (i + 1), rt', nx', Pv od (i + 1)⟩ σ2 H2)
    (hn : ∀ od σ H, Pv od l.length σ H → nx σ (upd H d (.dK (ik V' l)))) : tLock (tFor (iKeys td) g tb) ⟨nx, rt, bk, ct⟩ σ H :=
  l_forK hd htd Pv h0 hf (fun od i key y σ H rt' nx' ek q q1 => by
    obtain ⟨p, e, rfl, rfl⟩ := ik_get ek
    exact hs od i p σ H rt' nx' e q q1) fun od σ H q => hn od σ H (by rw [ik_len] at q; exact q)
end
/-- two ways that meet again, the second test within the first -/
theorem k_fork5 {nx bk ct : St → Hp → Prop} {rt : VK} {σ : St} {H : Hp} {t u : TS} {b : Bool} {tt : TT} (Pre : St → Hp → Prop)
    (main : ∀ nx' : St → Hp → Prop, (∀ σ' H', Pre σ' H' → nx' σ' H') → if b = true then tt σ H fun b1 H1 => if b1 = true then t ⟨nx', rt, bk, ct⟩ σ H1 else u ⟨nx', rt, bk, ct⟩ σ H1 else if false = true then t ⟨nx', rt, bk, ct⟩ σ H else u ⟨nx', rt, bk, ct⟩ σ H)
    (key : ∀ σ' H', Pre σ' H' → nx σ' H') : if b = true then tt σ H fun b1 H1 => if b1 = true then t ⟨nx, rt, bk, ct⟩ σ H1 else u ⟨nx, rt, bk, ct⟩ σ H1 else if false = true then t ⟨nx, rt, bk, ct⟩ σ H else u ⟨nx, rt, bk, ct⟩ σ H := main nx key
end LW

set_option maxHeartbeats 4000000
namespace LW
open PySem PySem.Spec PyProof.Rows L2
/-! ### for x, y in zip(xs, ys), two lists that stay -/
section
variable {K : PySem.W.Frag} {nx bk ct : St → Hp → Prop} {rt : VK} {σ : St} {H : Hp} {tb : TS} {g : TG} {ta : TA}
def LZip (K : PySem.W.Frag) (g : TG) (tb : TS) (D : Ends) (σ : St) (vs : List V) (H : Hp) : Prop := ∃ a b xs ys, vs = [.ref a, .ref b] ∧ SqL K H a xs ∧ SqL K H b ys ∧ ∃ W : Nat → Nat → St → Hp → Prop, (∃ m, W 0 m σ H) ∧ ∀ i m σ H, W i m σ H →
  ((Itz K a b).stop i H ∧ D.nx σ H) ∨ ((Itz K a b).go i H ∧ ∃ N : St → Hp → Prop, (∀ σ' H', N σ' H' → ∃ m', m' < m ∧ W (i + 1) m' σ' H') ∧ ∀ v H', (Itz K a b).yld i H v H' → g v σ H' fun σ2 H2 => tb { D with nx := N, ct := N, bk := D.nx } σ2 H2)
theorem k_zip (h : ta σ H fun vs H1 => LZip K g tb ⟨nx, rt, bk, ct⟩ σ vs H1) : tFor (iZip K ta) g tb ⟨nx, rt, bk, ct⟩ σ H := h
theorem l_zip {a b : Addr} {xs ys : List V} {n : Nat} (hn : n = min xs.length ys.length) (ha : SqL K H a xs) (hb : SqL K H b ys) (Pv : Nat → St → Hp → Prop) (h0 : Pv 0 σ H) (hq : ∀ i σ H, Pv i σ H → SqL K H a xs ∧ SqL K H b ys)
    (hs : ∀ (i : Nat) (x y : V) (T : Addr) (σ : St) (H H' : Hp), xs[i]? = some x → ys[i]? = some y → Pv i σ H → Ext [] H H' → H' T = some (.tup [x, y]) → g (.ref T) σ H' fun σ2 H2 => tb ⟨Pv (i + 1), rt, nx, Pv (i + 1)⟩ σ2 H2)
    (hd : ∀ σ H, Pv n σ H → nx σ H) : LZip K g tb ⟨nx, rt, bk, ct⟩ σ [.ref a, .ref b] H := by
  refine ⟨a, b, xs, ys, rfl, ha, hb, fun i m σ H => m = n - i ∧ i ≤ n ∧ Pv i σ H, ⟨n, rfl, Nat.zero_le _, h0⟩, ?_⟩
  rintro i m σ H ⟨rfl, hi, p⟩
  obtain ⟨qx, qy⟩ := hq i σ H p
  by_cases hlt : i < n
  · have hx : xs[i]? = some xs[i] := List.getElem?_eq_getElem (by omega)
    have hy : ys[i]? = some ys[i] := List.getElem?_eq_getElem (by omega)
    refine .inr ⟨⟨xs, ys, _, _, qx, qy, hx, hy⟩, Pv (i + 1), fun σ' H' p' => ⟨n - (i + 1), by omega, rfl, hlt, p'⟩, fun v H' y => ?_⟩
    obtain ⟨T, x', y', rfl, hT, rfl, f1, f2⟩ := y
    exact hs i x' y' T σ H _ (f1 xs qx) (f2 ys qy) p (Ext.new hT) upd_same
  · have e : i = n := by omega
    subst e
    exact .inl ⟨⟨xs, ys, qx, qy, by omega⟩, hd σ H p⟩
end
/-! ### how many keys -/
def rLenDK : List V → Hp → VK → Prop := fun xs H Q => ∃ a kvs, xs = [V.ref a] ∧ H a = some (.dK kvs) ∧ Q (.int kvs.length) H
theorem oLenD {X : Cx} : CallR X (.builtin "len") rLenDK := call_lenD
theorem l_lenDK {H : Hp} {Q : VK} {a : Addr} {kvs : List (Key × V)} (h : H a = some (.dK kvs)) (q : Q (.int kvs.length) H) : rLenDK [.ref a] H Q := ⟨a, kvs, rfl, h, q⟩
/-! ### comparisons of tuples and lists of tuples that are the same; membership -/
section
variable {K : PySem.W.Frag} {H : Hp} {Q : VK} {α : Type} {f : α → List V}
theorem shaped_tup {x : α} (hf : ∀ x, (f x).all plainV = true) : SeqAt.shaped (.tuple ((f x).map toD)) = true := by
  obtain ⟨a, b⟩ := lay_plains (hf x)
  unfold SeqAt.shaped
  rw [Bool.and_eq_true, decide_eq_true_eq]
  constructor
  · simpa [PyData.canLay0] using a
  · simp [PyData.depth]; omega
/-- two tuples that are the same do not differ -/
theorem l_neTup {u v : V} {x : α} (hf : ∀ x, (f x).all plainV = true) (h1 : IsT f H u x) (h2 : IsT f H v x) (q : Q (.bl false) H) : rNeD K u v H Q :=
  ⟨_, _, dp_tup (hf x) h1, dp_tup (hf x) h2, shaped_tup hf, shaped_tup hf, by rw [SeqAt.eqv_refl _ (shaped_lay (shaped_tup hf))]; exact q⟩
/-- two lists of the same tuples do not differ -/
theorem l_neLst {a b : Addr} {xs ys : List V} {ds : List α} (hf : ∀ x, (f x).all plainV = true) (ha : SqL K H a xs) (hb : SqL K H b ys) (h1 : Paired (IsT f H) xs ds) (h2 : Paired (IsT f H) ys ds) (q : Q (.bl false) H) :
    rNeD K (.ref a) (.ref b) H Q := ⟨_, _, .lst ha (dp_tups hf h1), .lst hb (dp_tups hf h2), shaped_tups hf ds, shaped_tups hf ds, by rw [SeqAt.eqv_refl _ (shaped_lay (shaped_tups hf ds))]; exact q⟩
/-- a tuple that is in the list -/
theorem l_notInT {a : Addr} {u : V} {xs : List V} {ds : List α} {x : α} (hf : ∀ x, (f x).all plainV = true) (hu : IsT f H u x) (ha : SqL K H a xs) (h1 : Paired (IsT f H) xs ds) (m : x ∈ ds) (q : Q (.bl false) H) : rNotInD K u (.ref a) H Q := by
  refine ⟨_, _, dp_tup (hf x) hu, .lst ha (dp_tups hf h1), shaped_tup hf, shaped_tups hf ds, ?_⟩
  have e : ((ds.map fun x => PyData.tuple ((f x).map toD)).any fun z => PyData.eqv z (.tuple ((f x).map toD))) = true := by
    rw [List.any_eq_true]
    exact ⟨_, List.mem_map_of_mem (f := fun x => PyData.tuple ((f x).map toD)) m, SeqAt.eqv_refl _ (shaped_lay (shaped_tup hf))⟩
  rw [e]
  exact q
end
end LW

set_option maxHeartbeats 4000000
namespace LW
open PySem PySem.Spec PyProof.Rows L2
def top (i : Nat) : Stmt := PySem.Challenge.pw_leasewatch_k10_whole_ears_know_what_stan.main.body.getD i (.Pass ⟨0, 0, 0, 0⟩)
abbrev s_wall : Stmt := top 0
abbrev s_Ear_init : Stmt := inClass (top 2) 0
abbrev s_Ear_hear : Stmt := inClass (top 2) 1
abbrev s_Ear_heard : Stmt := inClass (top 2) 2
abbrev s_Ear_state : Stmt := inClass (top 2) 3
abbrev s_Line_init : Stmt := inClass (top 3) 0
abbrev s_Line_turn : Stmt := inClass (top 3) 1
abbrev s_line_now : Stmt := top 4
abbrev s_Leases_init : Stmt := inClass (top 15) 0
abbrev s_Leases_grant : Stmt := inClass (top 15) 1
abbrev s_Leases_need : Stmt := inClass (top 15) 2
abbrev s_Leases_renew : Stmt := inClass (top 15) 3
abbrev s_Leases_drop : Stmt := inClass (top 15) 4
abbrev s_Leases_due : Stmt := inClass (top 15) 5
abbrev s_Log_init : Stmt := inClass (top 17) 0
abbrev s_Log_note : Stmt := inClass (top 17) 1
abbrev s_Log_last : Stmt := inClass (top 17) 2
abbrev s_Log_first : Stmt := inClass (top 17) 3
abbrev s_Log_wanted : Stmt := inClass (top 17) 4
abbrev s_Log_forget : Stmt := inClass (top 17) 5
abbrev s_Watcher_init : Stmt := inClass (top 19) 0
abbrev s_Room_init : Stmt := inClass (top 20) 0
abbrev s_Room_grant : Stmt := inClass (top 20) 1
abbrev s_Room_renew : Stmt := inClass (top 20) 2
abbrev s_Room_drop : Stmt := inClass (top 20) 3
abbrev s_Room_wait : Stmt := inClass (top 20) 4
abbrev s_Room_free : Stmt := inClass (top 20) 5
abbrev s_Room_put : Stmt := inClass (top 20) 6
abbrev s_Room_cut : Stmt := inClass (top 20) 7
abbrev s_Room_value : Stmt := inClass (top 20) 8
abbrev s_Room_holder : Stmt := inClass (top 20) 9
abbrev s_Room_pairs : Stmt := inClass (top 20) 10
abbrev s_Room_last : Stmt := inClass (top 20) 11
abbrev s_Room_first : Stmt := inClass (top 20) 12
abbrev s_Room_watch : Stmt := inClass (top 20) 13
abbrev s_Room_need : Stmt := inClass (top 20) 14
abbrev s_Room_pull : Stmt := inClass (top 20) 15
abbrev s_Room_confirm : Stmt := inClass (top 20) 16
abbrev s_Room_broken : Stmt := inClass (top 20) 17
abbrev s_Room_leave : Stmt := inClass (top 20) 18
abbrev s_Room_trim : Stmt := inClass (top 20) 19
abbrev s_l_whole : Stmt := top 22
abbrev s_l_cell_at : Stmt := top 23
abbrev s_l_sign : Stmt := top 24
abbrev s_l_text : Stmt := top 25
abbrev s_l_pool : Stmt := top 26
abbrev s_l_prefix : Stmt := top 27
abbrev s_l_only : Stmt := top 28
abbrev s_l_call : Stmt := top 29
abbrev s_l_done : Stmt := top 30
abbrev s_l_alike : Stmt := top 31
abbrev s_l_ticks : Stmt := top 32
abbrev s_l_deed : Stmt := top 33
abbrev s_l_pairs : Stmt := top 34
abbrev s_l_did : Stmt := top 35
abbrev s_l_key : Stmt := top 36
abbrev s_l_crowd : Stmt := top 37
abbrev s_l_knows : Stmt := top 38
abbrev s_l_stand : Stmt := top 39
abbrev s_l_begun : Stmt := top 40
abbrev s_l_step : Stmt := top 41
abbrev s_law : Stmt := top 42
/-- what the top has written -/
structure FX (K : PySem.W.Frag) (mg : Str → Option Value) : Prop where
  g_Ear : mg "Ear" = some (.ref (He.ga K "Ear"))
  g_Line : mg "Line" = some (.ref (He.ga K "Line"))
  g_LeaseError : mg "LeaseError" = some (.ref (He.ga K "LeaseError"))
  g_BadTicks : mg "BadTicks" = some (.ref (He.ga K "BadTicks"))
  g_NoLease : mg "NoLease" = some (.ref (He.ga K "NoLease"))
  g_NoKey : mg "NoKey" = some (.ref (He.ga K "NoKey"))
  g_Held : mg "Held" = some (.ref (He.ga K "Held"))
  g_NoStart : mg "NoStart" = some (.ref (He.ga K "NoStart"))
  g_NoWatch : mg "NoWatch" = some (.ref (He.ga K "NoWatch"))
  g_Leases : mg "Leases" = some (.ref (He.ga K "Leases"))
  g_Log : mg "Log" = some (.ref (He.ga K "Log"))
  g_Watcher : mg "Watcher" = some (.ref (He.ga K "Watcher"))
  g_Room : mg "Room" = some (.ref (He.ga K "Room"))
  g_wall : mg "_wall" = some (.ref (He.ga K "_wall"))
  g_line_now : mg "line_now" = some (.ref (He.ga K "line_now"))
  g_l_whole : mg "_law_whole" = some (.ref (He.ga K "_law_whole"))
  g_l_cell_at : mg "_law_cell_at" = some (.ref (He.ga K "_law_cell_at"))
  g_l_sign : mg "_law_sign" = some (.ref (He.ga K "_law_sign"))
  g_l_text : mg "_law_text" = some (.ref (He.ga K "_law_text"))
  g_l_pool : mg "_law_pool" = some (.ref (He.ga K "_law_pool"))
  g_l_prefix : mg "_law_prefix" = some (.ref (He.ga K "_law_prefix"))
  g_l_only : mg "_law_only" = some (.ref (He.ga K "_law_only"))
  g_l_call : mg "_law_call" = some (.ref (He.ga K "_law_call"))
  g_l_done : mg "_law_done" = some (.ref (He.ga K "_law_done"))
  g_l_alike : mg "_law_alike" = some (.ref (He.ga K "_law_alike"))
  g_l_ticks : mg "_law_ticks" = some (.ref (He.ga K "_law_ticks"))
  g_l_deed : mg "_law_deed" = some (.ref (He.ga K "_law_deed"))
  g_l_pairs : mg "_law_pairs" = some (.ref (He.ga K "_law_pairs"))
  g_l_did : mg "_law_did" = some (.ref (He.ga K "_law_did"))
  g_l_key : mg "_law_key" = some (.ref (He.ga K "_law_key"))
  g_l_crowd : mg "_law_crowd" = some (.ref (He.ga K "_law_crowd"))
  g_l_knows : mg "_law_knows" = some (.ref (He.ga K "_law_knows"))
  g_l_stand : mg "_law_stand" = some (.ref (He.ga K "_law_stand"))
  g_l_begun : mg "_law_begun" = some (.ref (He.ga K "_law_begun"))
  g_l_step : mg "_law_step" = some (.ref (He.ga K "_law_step"))
  g_law : mg "law" = some (.ref (He.ga K "law"))
  f_isinstance : mg "isinstance" = none
  f_len : mg "len" = none
  f_sorted : mg "sorted" = none
  f_range : mg "range" = none
  f_int : mg "int" = none
  f_bool : mg "bool" = none
  f_str : mg "str" = none
  f_list : mg "list" = none
  f_tuple : mg "tuple" = none
  f_ValueError : mg "ValueError" = none
  f_min : mg "min" = none
  f_max : mg "max" = none
  f_abs : mg "abs" = none
  f_zip : mg "zip" = none
  i_MOST_TICKS : ∃ t, mg "MOST_TICKS" = some (.int 1000000 t)
  x_LeaseError : PySem.W.excIn K (He.ga K "LeaseError") He.veBase "ValueError.__new__" = true ∧ PySem.W.keepIn K (.ref (He.ga K "LeaseError")) = true ∧ PySem.W.subIn K (.ref (He.ga K "LeaseError")) (.type "BaseException") = some true ∧ PySem.W.typeIn K (.ref (He.ga K "LeaseError")) = some (.type "type")
  x_BadTicks : PySem.W.excIn K (He.ga K "BadTicks") He.veBase "ValueError.__new__" = true ∧ PySem.W.keepIn K (.ref (He.ga K "BadTicks")) = true ∧ PySem.W.subIn K (.ref (He.ga K "BadTicks")) (.type "BaseException") = some true ∧ PySem.W.typeIn K (.ref (He.ga K "BadTicks")) = some (.type "type")
  e_BadTicks : PySem.W.exmOne K (.ref (He.ga K "BadTicks")) (.ref (He.ga K "LeaseError")) = some true
  x_NoLease : PySem.W.excIn K (He.ga K "NoLease") He.veBase "ValueError.__new__" = true ∧ PySem.W.keepIn K (.ref (He.ga K "NoLease")) = true ∧ PySem.W.subIn K (.ref (He.ga K "NoLease")) (.type "BaseException") = some true ∧ PySem.W.typeIn K (.ref (He.ga K "NoLease")) = some (.type "type")
  e_NoLease : PySem.W.exmOne K (.ref (He.ga K "NoLease")) (.ref (He.ga K "LeaseError")) = some true
  x_NoKey : PySem.W.excIn K (He.ga K "NoKey") He.veBase "ValueError.__new__" = true ∧ PySem.W.keepIn K (.ref (He.ga K "NoKey")) = true ∧ PySem.W.subIn K (.ref (He.ga K "NoKey")) (.type "BaseException") = some true ∧ PySem.W.typeIn K (.ref (He.ga K "NoKey")) = some (.type "type")
  e_NoKey : PySem.W.exmOne K (.ref (He.ga K "NoKey")) (.ref (He.ga K "LeaseError")) = some true
  x_Held : PySem.W.excIn K (He.ga K "Held") He.veBase "ValueError.__new__" = true ∧ PySem.W.keepIn K (.ref (He.ga K "Held")) = true ∧ PySem.W.subIn K (.ref (He.ga K "Held")) (.type "BaseException") = some true ∧ PySem.W.typeIn K (.ref (He.ga K "Held")) = some (.type "type")
  e_Held : PySem.W.exmOne K (.ref (He.ga K "Held")) (.ref (He.ga K "LeaseError")) = some true
  x_NoStart : PySem.W.excIn K (He.ga K "NoStart") He.veBase "ValueError.__new__" = true ∧ PySem.W.keepIn K (.ref (He.ga K "NoStart")) = true ∧ PySem.W.subIn K (.ref (He.ga K "NoStart")) (.type "BaseException") = some true ∧ PySem.W.typeIn K (.ref (He.ga K "NoStart")) = some (.type "type")
  e_NoStart : PySem.W.exmOne K (.ref (He.ga K "NoStart")) (.ref (He.ga K "LeaseError")) = some true
  x_NoWatch : PySem.W.excIn K (He.ga K "NoWatch") He.veBase "ValueError.__new__" = true ∧ PySem.W.keepIn K (.ref (He.ga K "NoWatch")) = true ∧ PySem.W.subIn K (.ref (He.ga K "NoWatch")) (.type "BaseException") = some true ∧ PySem.W.typeIn K (.ref (He.ga K "NoWatch")) = some (.type "type")
  e_NoWatch : PySem.W.exmOne K (.ref (He.ga K "NoWatch")) (.ref (He.ga K "LeaseError")) = some true
  xk : ExcK (["BadTicks", "NoLease", "NoKey", "Held", "NoStart", "NoWatch"] : List Str) K
  is_Line : InsK K (He.ga K "Line")
  cl_Ear : Cls K (He.ga K "Ear")
  mk_Ear : Mk K (He.ga K "Ear") (He.ma K (He.ga K "Ear") "__init__")
  na_Ear_behind : NoAttr K (He.ga K "Ear") "behind"
  na_Ear_begun : NoAttr K (He.ga K "Ear") "begun"
  na_Ear_rows : NoAttr K (He.ga K "Ear") "rows"
  me_Ear_hear : Meth K (He.ga K "Ear") "hear" (He.ma K (He.ga K "Ear") "hear")
  me_Ear_heard : Meth K (He.ga K "Ear") "heard" (He.ma K (He.ga K "Ear") "heard")
  me_Ear_state : Meth K (He.ga K "Ear") "state" (He.ma K (He.ga K "Ear") "state")
  cl_Line : Cls K (He.ga K "Line")
  mk_Line : Mk K (He.ga K "Line") (He.ma K (He.ga K "Line") "__init__")
  na_Line_room : NoAttr K (He.ga K "Line") "room"
  na_Line_watcher : NoAttr K (He.ga K "Line") "watcher"
  na_Line_ear : NoAttr K (He.ga K "Line") "ear"
  me_Line_turn : Meth K (He.ga K "Line") "turn" (He.ma K (He.ga K "Line") "turn")
  cl_Leases : Cls K (He.ga K "Leases")
  mk_Leases : Mk K (He.ga K "Leases") (He.ma K (He.ga K "Leases") "__init__")
  na_Leases_given : NoAttr K (He.ga K "Leases") "given"
  na_Leases_spans : NoAttr K (He.ga K "Leases") "spans"
  na_Leases_ends : NoAttr K (He.ga K "Leases") "ends"
  me_Leases_grant : Meth K (He.ga K "Leases") "grant" (He.ma K (He.ga K "Leases") "grant")
  me_Leases_need : Meth K (He.ga K "Leases") "need" (He.ma K (He.ga K "Leases") "need")
  me_Leases_renew : Meth K (He.ga K "Leases") "renew" (He.ma K (He.ga K "Leases") "renew")
  me_Leases_drop : Meth K (He.ga K "Leases") "drop" (He.ma K (He.ga K "Leases") "drop")
  me_Leases_due : Meth K (He.ga K "Leases") "due" (He.ma K (He.ga K "Leases") "due")
  cl_Log : Cls K (He.ga K "Log")
  mk_Log : Mk K (He.ga K "Log") (He.ma K (He.ga K "Log") "__init__")
  na_Log_rows : NoAttr K (He.ga K "Log") "rows"
  na_Log_gone : NoAttr K (He.ga K "Log") "gone"
  me_Log_note : Meth K (He.ga K "Log") "note" (He.ma K (He.ga K "Log") "note")
  me_Log_last : Meth K (He.ga K "Log") "last" (He.ma K (He.ga K "Log") "last")
  me_Log_first : Meth K (He.ga K "Log") "first" (He.ma K (He.ga K "Log") "first")
  me_Log_wanted : Meth K (He.ga K "Log") "wanted" (He.ma K (He.ga K "Log") "wanted")
  me_Log_forget : Meth K (He.ga K "Log") "forget" (He.ma K (He.ga K "Log") "forget")
  cl_Watcher : Cls K (He.ga K "Watcher")
  mk_Watcher : Mk K (He.ga K "Watcher") (He.ma K (He.ga K "Watcher") "__init__")
  na_Watcher_prefix : NoAttr K (He.ga K "Watcher") "prefix"
  na_Watcher_had : NoAttr K (He.ga K "Watcher") "had"
  na_Watcher_told : NoAttr K (He.ga K "Watcher") "told"
  cl_Room : Cls K (He.ga K "Room")
  mk_Room : Mk K (He.ga K "Room") (He.ma K (He.ga K "Room") "__init__")
  na_Room_now : NoAttr K (He.ga K "Room") "now"
  na_Room_leases : NoAttr K (He.ga K "Room") "leases"
  na_Room_log : NoAttr K (He.ga K "Room") "log"
  na_Room_kept : NoAttr K (He.ga K "Room") "kept"
  na_Room_watchers : NoAttr K (He.ga K "Room") "watchers"
  na_Room_met : NoAttr K (He.ga K "Room") "met"
  me_Room_grant : Meth K (He.ga K "Room") "grant" (He.ma K (He.ga K "Room") "grant")
  me_Room_renew : Meth K (He.ga K "Room") "renew" (He.ma K (He.ga K "Room") "renew")
  me_Room_drop : Meth K (He.ga K "Room") "drop" (He.ma K (He.ga K "Room") "drop")
  me_Room_wait : Meth K (He.ga K "Room") "wait" (He.ma K (He.ga K "Room") "wait")
  me_Room_free : Meth K (He.ga K "Room") "free" (He.ma K (He.ga K "Room") "free")
  me_Room_put : Meth K (He.ga K "Room") "put" (He.ma K (He.ga K "Room") "put")
  me_Room_cut : Meth K (He.ga K "Room") "cut" (He.ma K (He.ga K "Room") "cut")
  me_Room_value : Meth K (He.ga K "Room") "value" (He.ma K (He.ga K "Room") "value")
  me_Room_holder : Meth K (He.ga K "Room") "holder" (He.ma K (He.ga K "Room") "holder")
  me_Room_pairs : Meth K (He.ga K "Room") "pairs" (He.ma K (He.ga K "Room") "pairs")
  me_Room_last : Meth K (He.ga K "Room") "last" (He.ma K (He.ga K "Room") "last")
  me_Room_first : Meth K (He.ga K "Room") "first" (He.ma K (He.ga K "Room") "first")
  me_Room_watch : Meth K (He.ga K "Room") "watch" (He.ma K (He.ga K "Room") "watch")
  me_Room_need : Meth K (He.ga K "Room") "need" (He.ma K (He.ga K "Room") "need")
  me_Room_pull : Meth K (He.ga K "Room") "pull" (He.ma K (He.ga K "Room") "pull")
  me_Room_confirm : Meth K (He.ga K "Room") "confirm" (He.ma K (He.ga K "Room") "confirm")
  me_Room_broken : Meth K (He.ga K "Room") "broken" (He.ma K (He.ga K "Room") "broken")
  me_Room_leave : Meth K (He.ga K "Room") "leave" (He.ma K (He.ga K "Room") "leave")
  me_Room_trim : Meth K (He.ga K "Room") "trim" (He.ma K (He.ga K "Room") "trim")
  F_wall : FunD K "_wall" "_wall" (defArgs s_wall) (defBody s_wall) (defScope s_wall) [] [] (He.ga K "_wall") (fdAt K ("_wall", none))
  F_Ear_init : FunD K "__init__" "Ear.__init__" (defArgs s_Ear_init) (defBody s_Ear_init) (defScope s_Ear_init) [V.int 1, V.non] [] (He.ma K (He.ga K "Ear") "__init__") (fdAt K ("Ear", some "__init__"))
  F_Ear_hear : FunD K "hear" "Ear.hear" (defArgs s_Ear_hear) (defBody s_Ear_hear) (defScope s_Ear_hear) [] [] (He.ma K (He.ga K "Ear") "hear") (fdAt K ("Ear", some "hear"))
  F_Ear_heard : FunD K "heard" "Ear.heard" (defArgs s_Ear_heard) (defBody s_Ear_heard) (defScope s_Ear_heard) [] [] (He.ma K (He.ga K "Ear") "heard") (fdAt K ("Ear", some "heard"))
  F_Ear_state : FunD K "state" "Ear.state" (defArgs s_Ear_state) (defBody s_Ear_state) (defScope s_Ear_state) [] [] (He.ma K (He.ga K "Ear") "state") (fdAt K ("Ear", some "state"))
  F_Line_init : FunD K "__init__" "Line.__init__" (defArgs s_Line_init) (defBody s_Line_init) (defScope s_Line_init) [V.non] [] (He.ma K (He.ga K "Line") "__init__") (fdAt K ("Line", some "__init__"))
  F_Line_turn : FunD K "turn" "Line.turn" (defArgs s_Line_turn) (defBody s_Line_turn) (defScope s_Line_turn) [] [] (He.ma K (He.ga K "Line") "turn") (fdAt K ("Line", some "turn"))
  F_line_now : FunD K "line_now" "line_now" (defArgs s_line_now) (defBody s_line_now) (defScope s_line_now) [] [] (He.ga K "line_now") (fdAt K ("line_now", none))
  F_Leases_init : FunD K "__init__" "Leases.__init__" (defArgs s_Leases_init) (defBody s_Leases_init) (defScope s_Leases_init) [] [] (He.ma K (He.ga K "Leases") "__init__") (fdAt K ("Leases", some "__init__"))
  F_Leases_grant : FunD K "grant" "Leases.grant" (defArgs s_Leases_grant) (defBody s_Leases_grant) (defScope s_Leases_grant) [] [] (He.ma K (He.ga K "Leases") "grant") (fdAt K ("Leases", some "grant"))
  F_Leases_need : FunD K "need" "Leases.need" (defArgs s_Leases_need) (defBody s_Leases_need) (defScope s_Leases_need) [] [] (He.ma K (He.ga K "Leases") "need") (fdAt K ("Leases", some "need"))
  F_Leases_renew : FunD K "renew" "Leases.renew" (defArgs s_Leases_renew) (defBody s_Leases_renew) (defScope s_Leases_renew) [] [] (He.ma K (He.ga K "Leases") "renew") (fdAt K ("Leases", some "renew"))
  F_Leases_drop : FunD K "drop" "Leases.drop" (defArgs s_Leases_drop) (defBody s_Leases_drop) (defScope s_Leases_drop) [] [] (He.ma K (He.ga K "Leases") "drop") (fdAt K ("Leases", some "drop"))
  F_Leases_due : FunD K "due" "Leases.due" (defArgs s_Leases_due) (defBody s_Leases_due) (defScope s_Leases_due) [] [] (He.ma K (He.ga K "Leases") "due") (fdAt K ("Leases", some "due"))
  F_Log_init : FunD K "__init__" "Log.__init__" (defArgs s_Log_init) (defBody s_Log_init) (defScope s_Log_init) [] [] (He.ma K (He.ga K "Log") "__init__") (fdAt K ("Log", some "__init__"))
  F_Log_note : FunD K "note" "Log.note" (defArgs s_Log_note) (defBody s_Log_note) (defScope s_Log_note) [] [] (He.ma K (He.ga K "Log") "note") (fdAt K ("Log", some "note"))
  F_Log_last : FunD K "last" "Log.last" (defArgs s_Log_last) (defBody s_Log_last) (defScope s_Log_last) [] [] (He.ma K (He.ga K "Log") "last") (fdAt K ("Log", some "last"))
  F_Log_first : FunD K "first" "Log.first" (defArgs s_Log_first) (defBody s_Log_first) (defScope s_Log_first) [] [] (He.ma K (He.ga K "Log") "first") (fdAt K ("Log", some "first"))
  F_Log_wanted : FunD K "wanted" "Log.wanted" (defArgs s_Log_wanted) (defBody s_Log_wanted) (defScope s_Log_wanted) [] [] (He.ma K (He.ga K "Log") "wanted") (fdAt K ("Log", some "wanted"))
  F_Log_forget : FunD K "forget" "Log.forget" (defArgs s_Log_forget) (defBody s_Log_forget) (defScope s_Log_forget) [] [] (He.ma K (He.ga K "Log") "forget") (fdAt K ("Log", some "forget"))
  F_Watcher_init : FunD K "__init__" "Watcher.__init__" (defArgs s_Watcher_init) (defBody s_Watcher_init) (defScope s_Watcher_init) [] [] (He.ma K (He.ga K "Watcher") "__init__") (fdAt K ("Watcher", some "__init__"))
  F_Room_init : FunD K "__init__" "Room.__init__" (defArgs s_Room_init) (defBody s_Room_init) (defScope s_Room_init) [] [] (He.ma K (He.ga K "Room") "__init__") (fdAt K ("Room", some "__init__"))
  F_Room_grant : FunD K "grant" "Room.grant" (defArgs s_Room_grant) (defBody s_Room_grant) (defScope s_Room_grant) [] [] (He.ma K (He.ga K "Room") "grant") (fdAt K ("Room", some "grant"))
  F_Room_renew : FunD K "renew" "Room.renew" (defArgs s_Room_renew) (defBody s_Room_renew) (defScope s_Room_renew) [] [] (He.ma K (He.ga K "Room") "renew") (fdAt K ("Room", some "renew"))
  F_Room_drop : FunD K "drop" "Room.drop" (defArgs s_Room_drop) (defBody s_Room_drop) (defScope s_Room_drop) [] [] (He.ma K (He.ga K "Room") "drop") (fdAt K ("Room", some "drop"))
  F_Room_wait : FunD K "wait" "Room.wait" (defArgs s_Room_wait) (defBody s_Room_wait) (defScope s_Room_wait) [] [] (He.ma K (He.ga K "Room") "wait") (fdAt K ("Room", some "wait"))
  F_Room_free : FunD K "free" "Room.free" (defArgs s_Room_free) (defBody s_Room_free) (defScope s_Room_free) [] [] (He.ma K (He.ga K "Room") "free") (fdAt K ("Room", some "free"))
  F_Room_put : FunD K "put" "Room.put" (defArgs s_Room_put) (defBody s_Room_put) (defScope s_Room_put) [V.int 0] [] (He.ma K (He.ga K "Room") "put") (fdAt K ("Room", some "put"))
  F_Room_cut : FunD K "cut" "Room.cut" (defArgs s_Room_cut) (defBody s_Room_cut) (defScope s_Room_cut) [V.int 0] [] (He.ma K (He.ga K "Room") "cut") (fdAt K ("Room", some "cut"))
  F_Room_value : FunD K "value" "Room.value" (defArgs s_Room_value) (defBody s_Room_value) (defScope s_Room_value) [] [] (He.ma K (He.ga K "Room") "value") (fdAt K ("Room", some "value"))
  F_Room_holder : FunD K "holder" "Room.holder" (defArgs s_Room_holder) (defBody s_Room_holder) (defScope s_Room_holder) [] [] (He.ma K (He.ga K "Room") "holder") (fdAt K ("Room", some "holder"))
  F_Room_pairs : FunD K "pairs" "Room.pairs" (defArgs s_Room_pairs) (defBody s_Room_pairs) (defScope s_Room_pairs) [] [] (He.ma K (He.ga K "Room") "pairs") (fdAt K ("Room", some "pairs"))
  F_Room_last : FunD K "last" "Room.last" (defArgs s_Room_last) (defBody s_Room_last) (defScope s_Room_last) [] [] (He.ma K (He.ga K "Room") "last") (fdAt K ("Room", some "last"))
  F_Room_first : FunD K "first" "Room.first" (defArgs s_Room_first) (defBody s_Room_first) (defScope s_Room_first) [] [] (He.ma K (He.ga K "Room") "first") (fdAt K ("Room", some "first"))
  F_Room_watch : FunD K "watch" "Room.watch" (defArgs s_Room_watch) (defBody s_Room_watch) (defScope s_Room_watch) [] [] (He.ma K (He.ga K "Room") "watch") (fdAt K ("Room", some "watch"))
  F_Room_need : FunD K "need" "Room.need" (defArgs s_Room_need) (defBody s_Room_need) (defScope s_Room_need) [] [] (He.ma K (He.ga K "Room") "need") (fdAt K ("Room", some "need"))
  F_Room_pull : FunD K "pull" "Room.pull" (defArgs s_Room_pull) (defBody s_Room_pull) (defScope s_Room_pull) [] [] (He.ma K (He.ga K "Room") "pull") (fdAt K ("Room", some "pull"))
  F_Room_confirm : FunD K "confirm" "Room.confirm" (defArgs s_Room_confirm) (defBody s_Room_confirm) (defScope s_Room_confirm) [] [] (He.ma K (He.ga K "Room") "confirm") (fdAt K ("Room", some "confirm"))
  F_Room_broken : FunD K "broken" "Room.broken" (defArgs s_Room_broken) (defBody s_Room_broken) (defScope s_Room_broken) [] [] (He.ma K (He.ga K "Room") "broken") (fdAt K ("Room", some "broken"))
  F_Room_leave : FunD K "leave" "Room.leave" (defArgs s_Room_leave) (defBody s_Room_leave) (defScope s_Room_leave) [] [] (He.ma K (He.ga K "Room") "leave") (fdAt K ("Room", some "leave"))
  F_Room_trim : FunD K "trim" "Room.trim" (defArgs s_Room_trim) (defBody s_Room_trim) (defScope s_Room_trim) [] [] (He.ma K (He.ga K "Room") "trim") (fdAt K ("Room", some "trim"))
  F_l_whole : FunD K "_law_whole" "_law_whole" (defArgs s_l_whole) (defBody s_l_whole) (defScope s_l_whole) [] [] (He.ga K "_law_whole") (fdAt K ("_law_whole", none))
  F_l_cell_at : FunD K "_law_cell_at" "_law_cell_at" (defArgs s_l_cell_at) (defBody s_l_cell_at) (defScope s_l_cell_at) [] [] (He.ga K "_law_cell_at") (fdAt K ("_law_cell_at", none))
  F_l_sign : FunD K "_law_sign" "_law_sign" (defArgs s_l_sign) (defBody s_l_sign) (defScope s_l_sign) [] [] (He.ga K "_law_sign") (fdAt K ("_law_sign", none))
  F_l_text : FunD K "_law_text" "_law_text" (defArgs s_l_text) (defBody s_l_text) (defScope s_l_text) [] [] (He.ga K "_law_text") (fdAt K ("_law_text", none))
  F_l_pool : FunD K "_law_pool" "_law_pool" (defArgs s_l_pool) (defBody s_l_pool) (defScope s_l_pool) [] [] (He.ga K "_law_pool") (fdAt K ("_law_pool", none))
  F_l_prefix : FunD K "_law_prefix" "_law_prefix" (defArgs s_l_prefix) (defBody s_l_prefix) (defScope s_l_prefix) [] [] (He.ga K "_law_prefix") (fdAt K ("_law_prefix", none))
  F_l_only : FunD K "_law_only" "_law_only" (defArgs s_l_only) (defBody s_l_only) (defScope s_l_only) [] [] (He.ga K "_law_only") (fdAt K ("_law_only", none))
  F_l_call : FunD K "_law_call" "_law_call" (defArgs s_l_call) (defBody s_l_call) (defScope s_l_call) [] [] (He.ga K "_law_call") (fdAt K ("_law_call", none))
  F_l_done : FunD K "_law_done" "_law_done" (defArgs s_l_done) (defBody s_l_done) (defScope s_l_done) [] [] (He.ga K "_law_done") (fdAt K ("_law_done", none))
  F_l_alike : FunD K "_law_alike" "_law_alike" (defArgs s_l_alike) (defBody s_l_alike) (defScope s_l_alike) [] [] (He.ga K "_law_alike") (fdAt K ("_law_alike", none))
  F_l_ticks : FunD K "_law_ticks" "_law_ticks" (defArgs s_l_ticks) (defBody s_l_ticks) (defScope s_l_ticks) [] [] (He.ga K "_law_ticks") (fdAt K ("_law_ticks", none))
  F_l_deed : FunD K "_law_deed" "_law_deed" (defArgs s_l_deed) (defBody s_l_deed) (defScope s_l_deed) [] [] (He.ga K "_law_deed") (fdAt K ("_law_deed", none))
  F_l_pairs : FunD K "_law_pairs" "_law_pairs" (defArgs s_l_pairs) (defBody s_l_pairs) (defScope s_l_pairs) [] [] (He.ga K "_law_pairs") (fdAt K ("_law_pairs", none))
  F_l_did : FunD K "_law_did" "_law_did" (defArgs s_l_did) (defBody s_l_did) (defScope s_l_did) [] [] (He.ga K "_law_did") (fdAt K ("_law_did", none))
  F_l_key : FunD K "_law_key" "_law_key" (defArgs s_l_key) (defBody s_l_key) (defScope s_l_key) [] [] (He.ga K "_law_key") (fdAt K ("_law_key", none))
  F_l_crowd : FunD K "_law_crowd" "_law_crowd" (defArgs s_l_crowd) (defBody s_l_crowd) (defScope s_l_crowd) [] [] (He.ga K "_law_crowd") (fdAt K ("_law_crowd", none))
  F_l_knows : FunD K "_law_knows" "_law_knows" (defArgs s_l_knows) (defBody s_l_knows) (defScope s_l_knows) [] [] (He.ga K "_law_knows") (fdAt K ("_law_knows", none))
  F_l_stand : FunD K "_law_stand" "_law_stand" (defArgs s_l_stand) (defBody s_l_stand) (defScope s_l_stand) [] [] (He.ga K "_law_stand") (fdAt K ("_law_stand", none))
  F_l_begun : FunD K "_law_begun" "_law_begun" (defArgs s_l_begun) (defBody s_l_begun) (defScope s_l_begun) [] [] (He.ga K "_law_begun") (fdAt K ("_law_begun", none))
  F_l_step : FunD K "_law_step" "_law_step" (defArgs s_l_step) (defBody s_l_step) (defScope s_l_step) [] [] (He.ga K "_law_step") (fdAt K ("_law_step", none))
  F_law : FunD K "law" "law" (defArgs s_law) (defBody s_law) (defScope s_law) [] [] (He.ga K "law") (fdAt K ("law", none))
section
variable {K : PySem.W.Frag} {mg : Str → Option Value}
theorem FX.k_wall (T : FX K mg) : PySem.W.keepIn K (.ref (He.ga K "_wall")) = true := T.F_wall.kp
theorem FX.b_wall (T : FX K mg) : Binds K (fdAt K ("_wall", none)) ["k"] [] := T.F_wall.bindsN fun _ _ _ _ _ _ us hl => match us, hl with | [_], _ => rfl
theorem FX.b_Ear_hear (T : FX K mg) : Binds K (fdAt K ("Ear", some "hear")) ["self", "changes"] [] := T.F_Ear_hear.bindsN fun _ _ _ _ _ _ us hl => match us, hl with | [_, _], _ => rfl
theorem FX.b_Ear_heard (T : FX K mg) : Binds K (fdAt K ("Ear", some "heard")) ["self"] [] := T.F_Ear_heard.bindsN fun _ _ _ _ _ _ us hl => match us, hl with | [_], _ => rfl
theorem FX.b_Ear_state (T : FX K mg) : Binds K (fdAt K ("Ear", some "state")) ["self"] [] := T.F_Ear_state.bindsN fun _ _ _ _ _ _ us hl => match us, hl with | [_], _ => rfl
theorem FX.b_Line_turn (T : FX K mg) : Binds K (fdAt K ("Line", some "turn")) ["self", "most", "luck"] [] := T.F_Line_turn.bindsN fun _ _ _ _ _ _ us hl => match us, hl with | [_, _, _], _ => rfl
theorem FX.k_line_now (T : FX K mg) : PySem.W.keepIn K (.ref (He.ga K "line_now")) = true := T.F_line_now.kp
theorem FX.b_line_now (T : FX K mg) : Binds K (fdAt K ("line_now", none)) ["room", "prefix"] [] := T.F_line_now.bindsN fun _ _ _ _ _ _ us hl => match us, hl with | [_, _], _ => rfl
theorem FX.b_Leases_init (T : FX K mg) : Binds K (fdAt K ("Leases", some "__init__")) ["self"] [] := T.F_Leases_init.bindsN fun _ _ _ _ _ _ us hl => match us, hl with | [_], _ => rfl
theorem FX.b_Leases_grant (T : FX K mg) : Binds K (fdAt K ("Leases", some "grant")) ["self", "now", "ticks"] [] := T.F_Leases_grant.bindsN fun _ _ _ _ _ _ us hl => match us, hl with | [_, _, _], _ => rfl
theorem FX.b_Leases_need (T : FX K mg) : Binds K (fdAt K ("Leases", some "need")) ["self", "lease"] [] := T.F_Leases_need.bindsN fun _ _ _ _ _ _ us hl => match us, hl with | [_, _], _ => rfl
theorem FX.b_Leases_renew (T : FX K mg) : Binds K (fdAt K ("Leases", some "renew")) ["self", "now", "lease"] [] := T.F_Leases_renew.bindsN fun _ _ _ _ _ _ us hl => match us, hl with | [_, _, _], _ => rfl
theorem FX.b_Leases_drop (T : FX K mg) : Binds K (fdAt K ("Leases", some "drop")) ["self", "lease"] [] := T.F_Leases_drop.bindsN fun _ _ _ _ _ _ us hl => match us, hl with | [_, _], _ => rfl
theorem FX.b_Leases_due (T : FX K mg) : Binds K (fdAt K ("Leases", some "due")) ["self", "until"] [] := T.F_Leases_due.bindsN fun _ _ _ _ _ _ us hl => match us, hl with | [_, _], _ => rfl
theorem FX.b_Log_init (T : FX K mg) : Binds K (fdAt K ("Log", some "__init__")) ["self"] [] := T.F_Log_init.bindsN fun _ _ _ _ _ _ us hl => match us, hl with | [_], _ => rfl
theorem FX.b_Log_note (T : FX K mg) : Binds K (fdAt K ("Log", some "note")) ["self", "tick", "word", "key", "value"] [] := T.F_Log_note.bindsN fun _ _ _ _ _ _ us hl => match us, hl with | [_, _, _, _, _], _ => rfl
theorem FX.b_Log_last (T : FX K mg) : Binds K (fdAt K ("Log", some "last")) ["self"] [] := T.F_Log_last.bindsN fun _ _ _ _ _ _ us hl => match us, hl with | [_], _ => rfl
theorem FX.b_Log_first (T : FX K mg) : Binds K (fdAt K ("Log", some "first")) ["self"] [] := T.F_Log_first.bindsN fun _ _ _ _ _ _ us hl => match us, hl with | [_], _ => rfl
theorem FX.b_Log_wanted (T : FX K mg) : Binds K (fdAt K ("Log", some "wanted")) ["self", "prefix", "behind", "most"] [] := T.F_Log_wanted.bindsN fun _ _ _ _ _ _ us hl => match us, hl with | [_, _, _, _], _ => rfl
theorem FX.b_Log_forget (T : FX K mg) : Binds K (fdAt K ("Log", some "forget")) ["self", "upto"] [] := T.F_Log_forget.bindsN fun _ _ _ _ _ _ us hl => match us, hl with | [_, _], _ => rfl
theorem FX.b_Watcher_init (T : FX K mg) : Binds K (fdAt K ("Watcher", some "__init__")) ["self", "prefix", "had"] [] := T.F_Watcher_init.bindsN fun _ _ _ _ _ _ us hl => match us, hl with | [_, _, _], _ => rfl
theorem FX.b_Room_init (T : FX K mg) : Binds K (fdAt K ("Room", some "__init__")) ["self"] [] := T.F_Room_init.bindsN fun _ _ _ _ _ _ us hl => match us, hl with | [_], _ => rfl
theorem FX.b_Room_grant (T : FX K mg) : Binds K (fdAt K ("Room", some "grant")) ["self", "ticks"] [] := T.F_Room_grant.bindsN fun _ _ _ _ _ _ us hl => match us, hl with | [_, _], _ => rfl
theorem FX.b_Room_renew (T : FX K mg) : Binds K (fdAt K ("Room", some "renew")) ["self", "lease"] [] := T.F_Room_renew.bindsN fun _ _ _ _ _ _ us hl => match us, hl with | [_, _], _ => rfl
theorem FX.b_Room_drop (T : FX K mg) : Binds K (fdAt K ("Room", some "drop")) ["self", "lease"] [] := T.F_Room_drop.bindsN fun _ _ _ _ _ _ us hl => match us, hl with | [_, _], _ => rfl
theorem FX.b_Room_wait (T : FX K mg) : Binds K (fdAt K ("Room", some "wait")) ["self", "ticks"] [] := T.F_Room_wait.bindsN fun _ _ _ _ _ _ us hl => match us, hl with | [_, _], _ => rfl
theorem FX.b_Room_free (T : FX K mg) : Binds K (fdAt K ("Room", some "free")) ["self", "lease", "tick"] [] := T.F_Room_free.bindsN fun _ _ _ _ _ _ us hl => match us, hl with | [_, _, _], _ => rfl
theorem FX.b_Room_value (T : FX K mg) : Binds K (fdAt K ("Room", some "value")) ["self", "key"] [] := T.F_Room_value.bindsN fun _ _ _ _ _ _ us hl => match us, hl with | [_, _], _ => rfl
theorem FX.b_Room_holder (T : FX K mg) : Binds K (fdAt K ("Room", some "holder")) ["self", "key"] [] := T.F_Room_holder.bindsN fun _ _ _ _ _ _ us hl => match us, hl with | [_, _], _ => rfl
theorem FX.b_Room_pairs (T : FX K mg) : Binds K (fdAt K ("Room", some "pairs")) ["self", "prefix"] [] := T.F_Room_pairs.bindsN fun _ _ _ _ _ _ us hl => match us, hl with | [_, _], _ => rfl
theorem FX.b_Room_last (T : FX K mg) : Binds K (fdAt K ("Room", some "last")) ["self"] [] := T.F_Room_last.bindsN fun _ _ _ _ _ _ us hl => match us, hl with | [_], _ => rfl
theorem FX.b_Room_first (T : FX K mg) : Binds K (fdAt K ("Room", some "first")) ["self"] [] := T.F_Room_first.bindsN fun _ _ _ _ _ _ us hl => match us, hl with | [_], _ => rfl
theorem FX.b_Room_watch (T : FX K mg) : Binds K (fdAt K ("Room", some "watch")) ["self", "prefix", "start"] [] := T.F_Room_watch.bindsN fun _ _ _ _ _ _ us hl => match us, hl with | [_, _, _], _ => rfl
theorem FX.b_Room_need (T : FX K mg) : Binds K (fdAt K ("Room", some "need")) ["self", "watcher"] [] := T.F_Room_need.bindsN fun _ _ _ _ _ _ us hl => match us, hl with | [_, _], _ => rfl
theorem FX.b_Room_pull (T : FX K mg) : Binds K (fdAt K ("Room", some "pull")) ["self", "watcher", "most"] [] := T.F_Room_pull.bindsN fun _ _ _ _ _ _ us hl => match us, hl with | [_, _, _], _ => rfl
theorem FX.b_Room_confirm (T : FX K mg) : Binds K (fdAt K ("Room", some "confirm")) ["self", "watcher"] [] := T.F_Room_confirm.bindsN fun _ _ _ _ _ _ us hl => match us, hl with | [_, _], _ => rfl
theorem FX.b_Room_broken (T : FX K mg) : Binds K (fdAt K ("Room", some "broken")) ["self", "watcher"] [] := T.F_Room_broken.bindsN fun _ _ _ _ _ _ us hl => match us, hl with | [_, _], _ => rfl
theorem FX.b_Room_leave (T : FX K mg) : Binds K (fdAt K ("Room", some "leave")) ["self", "watcher"] [] := T.F_Room_leave.bindsN fun _ _ _ _ _ _ us hl => match us, hl with | [_, _], _ => rfl
theorem FX.b_Room_trim (T : FX K mg) : Binds K (fdAt K ("Room", some "trim")) ["self"] [] := T.F_Room_trim.bindsN fun _ _ _ _ _ _ us hl => match us, hl with | [_], _ => rfl
theorem FX.k_l_whole (T : FX K mg) : PySem.W.keepIn K (.ref (He.ga K "_law_whole")) = true := T.F_l_whole.kp
theorem FX.b_l_whole (T : FX K mg) : Binds K (fdAt K ("_law_whole", none)) ["_law_found"] [] := T.F_l_whole.bindsN fun _ _ _ _ _ _ us hl => match us, hl with | [_], _ => rfl
theorem FX.k_l_cell_at (T : FX K mg) : PySem.W.keepIn K (.ref (He.ga K "_law_cell_at")) = true := T.F_l_cell_at.kp
theorem FX.b_l_cell_at (T : FX K mg) : Binds K (fdAt K ("_law_cell_at", none)) ["_law_script", "_law_k"] [] := T.F_l_cell_at.bindsN fun _ _ _ _ _ _ us hl => match us, hl with | [_, _], _ => rfl
theorem FX.k_l_sign (T : FX K mg) : PySem.W.keepIn K (.ref (He.ga K "_law_sign")) = true := T.F_l_sign.kp
theorem FX.b_l_sign (T : FX K mg) : Binds K (fdAt K ("_law_sign", none)) ["_law_cell"] [] := T.F_l_sign.bindsN fun _ _ _ _ _ _ us hl => match us, hl with | [_], _ => rfl
theorem FX.k_l_text (T : FX K mg) : PySem.W.keepIn K (.ref (He.ga K "_law_text")) = true := T.F_l_text.kp
theorem FX.b_l_text (T : FX K mg) : Binds K (fdAt K ("_law_text", none)) ["_law_cell", "_law_size"] [] := T.F_l_text.bindsN fun _ _ _ _ _ _ us hl => match us, hl with | [_, _], _ => rfl
theorem FX.k_l_pool (T : FX K mg) : PySem.W.keepIn K (.ref (He.ga K "_law_pool")) = true := T.F_l_pool.kp
theorem FX.b_l_pool (T : FX K mg) : Binds K (fdAt K ("_law_pool", none)) ["_law_cell", "_law_other"] [] := T.F_l_pool.bindsN fun _ _ _ _ _ _ us hl => match us, hl with | [_, _], _ => rfl
theorem FX.k_l_prefix (T : FX K mg) : PySem.W.keepIn K (.ref (He.ga K "_law_prefix")) = true := T.F_l_prefix.kp
theorem FX.b_l_prefix (T : FX K mg) : Binds K (fdAt K ("_law_prefix", none)) ["_law_pool_here", "_law_cell"] [] := T.F_l_prefix.bindsN fun _ _ _ _ _ _ us hl => match us, hl with | [_, _], _ => rfl
theorem FX.k_l_only (T : FX K mg) : PySem.W.keepIn K (.ref (He.ga K "_law_only")) = true := T.F_l_only.kp
theorem FX.b_l_only (T : FX K mg) : Binds K (fdAt K ("_law_only", none)) ["_law_error", "_law_word"] [] := T.F_l_only.bindsN fun _ _ _ _ _ _ us hl => match us, hl with | [_, _], _ => rfl
theorem FX.k_l_call (T : FX K mg) : PySem.W.keepIn K (.ref (He.ga K "_law_call")) = true := T.F_l_call.kp
theorem FX.b_l_call (T : FX K mg) : Binds K (fdAt K ("_law_call", none)) ["_law_room", "_law_deed_here"] [] := T.F_l_call.bindsN fun _ _ _ _ _ _ us hl => match us, hl with | [_, _], _ => rfl
theorem FX.k_l_done (T : FX K mg) : PySem.W.keepIn K (.ref (He.ga K "_law_done")) = true := T.F_l_done.kp
theorem FX.b_l_done (T : FX K mg) : Binds K (fdAt K ("_law_done", none)) ["_law_room", "_law_deed_here"] [] := T.F_l_done.bindsN fun _ _ _ _ _ _ us hl => match us, hl with | [_, _], _ => rfl
theorem FX.k_l_alike (T : FX K mg) : PySem.W.keepIn K (.ref (He.ga K "_law_alike")) = true := T.F_l_alike.kp
theorem FX.b_l_alike (T : FX K mg) : Binds K (fdAt K ("_law_alike", none)) ["_law_found", "_law_due"] [] := T.F_l_alike.bindsN fun _ _ _ _ _ _ us hl => match us, hl with | [_, _], _ => rfl
theorem FX.k_l_ticks (T : FX K mg) : PySem.W.keepIn K (.ref (He.ga K "_law_ticks")) = true := T.F_l_ticks.kp
theorem FX.b_l_ticks (T : FX K mg) : Binds K (fdAt K ("_law_ticks", none)) ["_law_cell", "_law_more"] [] := T.F_l_ticks.bindsN fun _ _ _ _ _ _ us hl => match us, hl with | [_, _], _ => rfl
theorem FX.k_l_deed (T : FX K mg) : PySem.W.keepIn K (.ref (He.ga K "_law_deed")) = true := T.F_l_deed.kp
theorem FX.b_l_deed (T : FX K mg) : Binds K (fdAt K ("_law_deed", none)) ["_law_m", "_law_pool_here", "_law_kind", "_law_cell", "_law_more"] [] := T.F_l_deed.bindsN fun _ _ _ _ _ _ us hl => match us, hl with | [_, _, _, _, _], _ => rfl
theorem FX.k_l_pairs (T : FX K mg) : PySem.W.keepIn K (.ref (He.ga K "_law_pairs")) = true := T.F_l_pairs.kp
theorem FX.b_l_pairs (T : FX K mg) : Binds K (fdAt K ("_law_pairs", none)) ["_law_found", "_law_due"] [] := T.F_l_pairs.bindsN fun _ _ _ _ _ _ us hl => match us, hl with | [_, _], _ => rfl
theorem FX.k_l_did (T : FX K mg) : PySem.W.keepIn K (.ref (He.ga K "_law_did")) = true := T.F_l_did.kp
theorem FX.b_l_did (T : FX K mg) : Binds K (fdAt K ("_law_did", none)) ["_law_room", "_law_m", "_law_deed_here"] [] := T.F_l_did.bindsN fun _ _ _ _ _ _ us hl => match us, hl with | [_, _, _], _ => rfl
theorem FX.k_l_key (T : FX K mg) : PySem.W.keepIn K (.ref (He.ga K "_law_key")) = true := T.F_l_key.kp
theorem FX.b_l_key (T : FX K mg) : Binds K (fdAt K ("_law_key", none)) ["_law_cell", "_law_k"] [] := T.F_l_key.bindsN fun _ _ _ _ _ _ us hl => match us, hl with | [_, _], _ => rfl
theorem FX.k_l_crowd (T : FX K mg) : PySem.W.keepIn K (.ref (He.ga K "_law_crowd")) = true := T.F_l_crowd.kp
theorem FX.b_l_crowd (T : FX K mg) : Binds K (fdAt K ("_law_crowd", none)) ["_law_room", "_law_m", "_law_cell"] [] := T.F_l_crowd.bindsN fun _ _ _ _ _ _ us hl => match us, hl with | [_, _, _], _ => rfl
theorem FX.k_l_knows (T : FX K mg) : PySem.W.keepIn K (.ref (He.ga K "_law_knows")) = true := T.F_l_knows.kp
theorem FX.b_l_knows (T : FX K mg) : Binds K (fdAt K ("_law_knows", none)) ["_law_line", "_law_room", "_law_prefix_here"] [] := T.F_l_knows.bindsN fun _ _ _ _ _ _ us hl => match us, hl with | [_, _, _], _ => rfl
theorem FX.k_l_stand (T : FX K mg) : PySem.W.keepIn K (.ref (He.ga K "_law_stand")) = true := T.F_l_stand.kp
theorem FX.b_l_stand (T : FX K mg) : Binds K (fdAt K ("_law_stand", none)) ["_law_room", "_law_m"] [] := T.F_l_stand.bindsN fun _ _ _ _ _ _ us hl => match us, hl with | [_, _], _ => rfl
theorem FX.k_l_begun (T : FX K mg) : PySem.W.keepIn K (.ref (He.ga K "_law_begun")) = true := T.F_l_begun.kp
theorem FX.b_l_begun (T : FX K mg) : Binds K (fdAt K ("_law_begun", none)) ["_law_room", "_law_m", "_law_line", "_law_prefix_here", "_law_cell", "_law_count"] [] := T.F_l_begun.bindsN fun _ _ _ _ _ _ us hl => match us, hl with | [_, _, _, _, _, _], _ => rfl
theorem FX.k_l_step (T : FX K mg) : PySem.W.keepIn K (.ref (He.ga K "_law_step")) = true := T.F_l_step.kp
theorem FX.b_l_step (T : FX K mg) : Binds K (fdAt K ("_law_step", none)) ["_law_room", "_law_m", "_law_lines", "_law_pool_here", "_law_cells"] [] := T.F_l_step.bindsN fun _ _ _ _ _ _ us hl => match us, hl with | [_, _, _, _, _], _ => rfl
theorem FX.k_law (T : FX K mg) : PySem.W.keepIn K (.ref (He.ga K "law")) = true := T.F_law.kp
theorem FX.b_law (T : FX K mg) : Binds K (fdAt K ("law", none)) ["_law_script"] [] := T.F_law.bindsN fun _ _ _ _ _ _ us hl => match us, hl with | [_], _ => rfl
theorem kb_Ear_init_2X (T : FX K mg) : ∃ its : List Value, KBn K (fdAt K ("Ear", some "__init__")) ["self", "start", "pairs"] 3 [] (fun us ws => let ds := its; us) (fun us ws => let ds : List V := [V.int 1, V.non]; us) :=
  FunD.kbindsD T.F_Ear_init 3 [] (fun {α} (us ds ws : List α) => us) (fun z => by cases z) (fun h1 h2 h3 => h1) (fun _ _ _ _ _ _ _ us its ws l1 l2 l3 => match us, its, ws, l1, l2, l3 with | [_, _, _], [_, _], [], _, _, _ => ⟨_, rfl, rfl⟩)
theorem kb_Line_init_4X (T : FX K mg) : ∃ its : List Value, KBn K (fdAt K ("Line", some "__init__")) ["self", "room", "prefix", "start", "pairs"] 5 [] (fun us ws => let ds := its; us) (fun us ws => let ds : List V := [V.non]; us) :=
  FunD.kbindsD T.F_Line_init 5 [] (fun {α} (us ds ws : List α) => us) (fun z => by cases z) (fun h1 h2 h3 => h1) (fun _ _ _ _ _ _ _ us its ws l1 l2 l3 => match us, its, ws, l1, l2, l3 with | [_, _, _, _, _], [_], [], _, _, _ => ⟨_, rfl, rfl⟩)
theorem kb_Room_put_2X (T : FX K mg) : ∃ its : List Value, KBn K (fdAt K ("Room", some "put")) ["self", "key", "value", "lease"] 3 [] (fun us ws => let ds := its; us ++ (ds.drop 0).take 1) (fun us ws => let ds : List V := [V.int 0]; us ++ (ds.drop 0).take 1) :=
  FunD.kbindsD T.F_Room_put 3 [] (fun {α} (us ds ws : List α) => us ++ (ds.drop 0).take 1) (fun z => by cases z) (fun h1 h2 h3 => (vals_app h1 (vals_pick 0 h2))) (fun _ _ _ _ _ _ _ us its ws l1 l2 l3 => match us, its, ws, l1, l2, l3 with | [_, _, _], [_], [], _, _, _ => ⟨_, rfl, rfl⟩)
theorem kb_Room_put_2_leaseX (T : FX K mg) : ∃ its : List Value, KBn K (fdAt K ("Room", some "put")) ["self", "key", "value", "lease"] 3 ["lease"] (fun us ws => let ds := its; us ++ (ws.drop 0).take 1) (fun us ws => let ds : List V := [V.int 0]; us ++ (ws.drop 0).take 1) :=
  FunD.kbindsD T.F_Room_put 3 ["lease"] (fun {α} (us ds ws : List α) => us ++ (ws.drop 0).take 1) (fun z => by cases z) (fun h1 h2 h3 => (vals_app h1 (vals_pick 0 h3))) (fun _ _ _ _ _ _ _ us its ws l1 l2 l3 => match us, its, ws, l1, l2, l3 with | [_, _, _], [_], [_], _, _, _ => ⟨_, rfl, rfl⟩)
theorem kb_Room_put_3X (T : FX K mg) : ∃ its : List Value, KBn K (fdAt K ("Room", some "put")) ["self", "key", "value", "lease"] 4 [] (fun us ws => let ds := its; us) (fun us ws => let ds : List V := [V.int 0]; us) :=
  FunD.kbindsD T.F_Room_put 4 [] (fun {α} (us ds ws : List α) => us) (fun z => by cases z) (fun h1 h2 h3 => h1) (fun _ _ _ _ _ _ _ us its ws l1 l2 l3 => match us, its, ws, l1, l2, l3 with | [_, _, _, _], [_], [], _, _, _ => ⟨_, rfl, rfl⟩)
theorem kb_Room_cut_1_leaseX (T : FX K mg) : ∃ its : List Value, KBn K (fdAt K ("Room", some "cut")) ["self", "key", "lease"] 2 ["lease"] (fun us ws => let ds := its; us ++ (ws.drop 0).take 1) (fun us ws => let ds : List V := [V.int 0]; us ++ (ws.drop 0).take 1) :=
  FunD.kbindsD T.F_Room_cut 2 ["lease"] (fun {α} (us ds ws : List α) => us ++ (ws.drop 0).take 1) (fun z => by cases z) (fun h1 h2 h3 => (vals_app h1 (vals_pick 0 h3))) (fun _ _ _ _ _ _ _ us its ws l1 l2 l3 => match us, its, ws, l1, l2, l3 with | [_, _], [_], [_], _, _, _ => ⟨_, rfl, rfl⟩)
theorem kb_Room_cut_2X (T : FX K mg) : ∃ its : List Value, KBn K (fdAt K ("Room", some "cut")) ["self", "key", "lease"] 3 [] (fun us ws => let ds := its; us) (fun us ws => let ds : List V := [V.int 0]; us) :=
  FunD.kbindsD T.F_Room_cut 3 [] (fun {α} (us ds ws : List α) => us) (fun z => by cases z) (fun h1 h2 h3 => h1) (fun _ _ _ _ _ _ _ us its ws l1 l2 l3 => match us, its, ws, l1, l2, l3 with | [_, _, _], [_], [], _, _, _ => ⟨_, rfl, rfl⟩)
end
def fl_Ear (x0 x1 x2 : V) : List (Str × V) := [("behind", x0), ("begun", x1), ("rows", x2)]
section
variable {x0 x1 x2 y : V}
theorem lk_Ear_behind : (fl_Ear x0 x1 x2).lookup ("behind" : Str) = some x0 := by kernel_rfl
theorem pt_Ear_behind : putF "behind" y (fl_Ear x0 x1 x2) = fl_Ear y x1 x2 := by kernel_rfl
theorem lk_Ear_begun : (fl_Ear x0 x1 x2).lookup ("begun" : Str) = some x1 := by kernel_rfl
theorem pt_Ear_begun : putF "begun" y (fl_Ear x0 x1 x2) = fl_Ear x0 y x2 := by kernel_rfl
theorem lk_Ear_rows : (fl_Ear x0 x1 x2).lookup ("rows" : Str) = some x2 := by kernel_rfl
theorem pt_Ear_rows : putF "rows" y (fl_Ear x0 x1 x2) = fl_Ear x0 x1 y := by kernel_rfl
theorem pi_Ear_0 : putF "behind" x0 [] = ([("behind", x0)] : List (Str × V)) := by kernel_rfl
theorem pi_Ear_1 : putF "begun" x1 ([("behind", x0)] : List (Str × V)) = ([("behind", x0), ("begun", x1)] : List (Str × V)) := by kernel_rfl
theorem pi_Ear_2 : putF "rows" x2 ([("behind", x0), ("begun", x1)] : List (Str × V)) = (fl_Ear x0 x1 x2) := by kernel_rfl
theorem lz_Ear : (fl_Ear x0 x1 x2).length < 1000 := by show 3 < 1000; decide
theorem lm_Ear_hear : (fl_Ear x0 x1 x2).lookup ("hear" : Str) = none := by kernel_rfl
theorem lm_Ear_heard : (fl_Ear x0 x1 x2).lookup ("heard" : Str) = none := by kernel_rfl
theorem lm_Ear_state : (fl_Ear x0 x1 x2).lookup ("state" : Str) = none := by kernel_rfl
end
def fl_Line (x0 x1 x2 : V) : List (Str × V) := [("room", x0), ("watcher", x1), ("ear", x2)]
section
variable {x0 x1 x2 y : V}
theorem lk_Line_room : (fl_Line x0 x1 x2).lookup ("room" : Str) = some x0 := by kernel_rfl
theorem pt_Line_room : putF "room" y (fl_Line x0 x1 x2) = fl_Line y x1 x2 := by kernel_rfl
theorem lk_Line_watcher : (fl_Line x0 x1 x2).lookup ("watcher" : Str) = some x1 := by kernel_rfl
theorem pt_Line_watcher : putF "watcher" y (fl_Line x0 x1 x2) = fl_Line x0 y x2 := by kernel_rfl
theorem lk_Line_ear : (fl_Line x0 x1 x2).lookup ("ear" : Str) = some x2 := by kernel_rfl
theorem pt_Line_ear : putF "ear" y (fl_Line x0 x1 x2) = fl_Line x0 x1 y := by kernel_rfl
theorem pi_Line_0 : putF "room" x0 [] = ([("room", x0)] : List (Str × V)) := by kernel_rfl
theorem pi_Line_1 : putF "watcher" x1 ([("room", x0)] : List (Str × V)) = ([("room", x0), ("watcher", x1)] : List (Str × V)) := by kernel_rfl
theorem pi_Line_2 : putF "ear" x2 ([("room", x0), ("watcher", x1)] : List (Str × V)) = (fl_Line x0 x1 x2) := by kernel_rfl
theorem lz_Line : (fl_Line x0 x1 x2).length < 1000 := by show 3 < 1000; decide
theorem lm_Line_turn : (fl_Line x0 x1 x2).lookup ("turn" : Str) = none := by kernel_rfl
end
def fl_Leases (x0 x1 x2 : V) : List (Str × V) := [("given", x0), ("spans", x1), ("ends", x2)]
section
variable {x0 x1 x2 y : V}
theorem lk_Leases_given : (fl_Leases x0 x1 x2).lookup ("given" : Str) = some x0 := by kernel_rfl
theorem pt_Leases_given : putF "given" y (fl_Leases x0 x1 x2) = fl_Leases y x1 x2 := by kernel_rfl
theorem lk_Leases_spans : (fl_Leases x0 x1 x2).lookup ("spans" : Str) = some x1 := by kernel_rfl
theorem pt_Leases_spans : putF "spans" y (fl_Leases x0 x1 x2) = fl_Leases x0 y x2 := by kernel_rfl
theorem lk_Leases_ends : (fl_Leases x0 x1 x2).lookup ("ends" : Str) = some x2 := by kernel_rfl
theorem pt_Leases_ends : putF "ends" y (fl_Leases x0 x1 x2) = fl_Leases x0 x1 y := by kernel_rfl
theorem pi_Leases_0 : putF "given" x0 [] = ([("given", x0)] : List (Str × V)) := by kernel_rfl
theorem pi_Leases_1 : putF "spans" x1 ([("given", x0)] : List (Str × V)) = ([("given", x0), ("spans", x1)] : List (Str × V)) := by kernel_rfl
theorem pi_Leases_2 : putF "ends" x2 ([("given", x0), ("spans", x1)] : List (Str × V)) = (fl_Leases x0 x1 x2) := by kernel_rfl
theorem lz_Leases : (fl_Leases x0 x1 x2).length < 1000 := by show 3 < 1000; decide
theorem lm_Leases_grant : (fl_Leases x0 x1 x2).lookup ("grant" : Str) = none := by kernel_rfl
theorem lm_Leases_need : (fl_Leases x0 x1 x2).lookup ("need" : Str) = none := by kernel_rfl
theorem lm_Leases_renew : (fl_Leases x0 x1 x2).lookup ("renew" : Str) = none := by kernel_rfl
theorem lm_Leases_drop : (fl_Leases x0 x1 x2).lookup ("drop" : Str) = none := by kernel_rfl
theorem lm_Leases_due : (fl_Leases x0 x1 x2).lookup ("due" : Str) = none := by kernel_rfl
end
def fl_Log (x0 x1 : V) : List (Str × V) := [("rows", x0), ("gone", x1)]
section
variable {x0 x1 y : V}
theorem lk_Log_rows : (fl_Log x0 x1).lookup ("rows" : Str) = some x0 := by kernel_rfl
theorem pt_Log_rows : putF "rows" y (fl_Log x0 x1) = fl_Log y x1 := by kernel_rfl
theorem lk_Log_gone : (fl_Log x0 x1).lookup ("gone" : Str) = some x1 := by kernel_rfl
theorem pt_Log_gone : putF "gone" y (fl_Log x0 x1) = fl_Log x0 y := by kernel_rfl
theorem pi_Log_0 : putF "rows" x0 [] = ([("rows", x0)] : List (Str × V)) := by kernel_rfl
theorem pi_Log_1 : putF "gone" x1 ([("rows", x0)] : List (Str × V)) = (fl_Log x0 x1) := by kernel_rfl
theorem lz_Log : (fl_Log x0 x1).length < 1000 := by show 2 < 1000; decide
theorem lm_Log_note : (fl_Log x0 x1).lookup ("note" : Str) = none := by kernel_rfl
theorem lm_Log_last : (fl_Log x0 x1).lookup ("last" : Str) = none := by kernel_rfl
theorem lm_Log_first : (fl_Log x0 x1).lookup ("first" : Str) = none := by kernel_rfl
theorem lm_Log_wanted : (fl_Log x0 x1).lookup ("wanted" : Str) = none := by kernel_rfl
theorem lm_Log_forget : (fl_Log x0 x1).lookup ("forget" : Str) = none := by kernel_rfl
end
def fl_Watcher (x0 x1 x2 : V) : List (Str × V) := [("prefix", x0), ("had", x1), ("told", x2)]
section
variable {x0 x1 x2 y : V}
theorem lk_Watcher_prefix : (fl_Watcher x0 x1 x2).lookup ("prefix" : Str) = some x0 := by kernel_rfl
theorem pt_Watcher_prefix : putF "prefix" y (fl_Watcher x0 x1 x2) = fl_Watcher y x1 x2 := by kernel_rfl
theorem lk_Watcher_had : (fl_Watcher x0 x1 x2).lookup ("had" : Str) = some x1 := by kernel_rfl
theorem pt_Watcher_had : putF "had" y (fl_Watcher x0 x1 x2) = fl_Watcher x0 y x2 := by kernel_rfl
theorem lk_Watcher_told : (fl_Watcher x0 x1 x2).lookup ("told" : Str) = some x2 := by kernel_rfl
theorem pt_Watcher_told : putF "told" y (fl_Watcher x0 x1 x2) = fl_Watcher x0 x1 y := by kernel_rfl
theorem pi_Watcher_0 : putF "prefix" x0 [] = ([("prefix", x0)] : List (Str × V)) := by kernel_rfl
theorem pi_Watcher_1 : putF "had" x1 ([("prefix", x0)] : List (Str × V)) = ([("prefix", x0), ("had", x1)] : List (Str × V)) := by kernel_rfl
theorem pi_Watcher_2 : putF "told" x2 ([("prefix", x0), ("had", x1)] : List (Str × V)) = (fl_Watcher x0 x1 x2) := by kernel_rfl
theorem lz_Watcher : (fl_Watcher x0 x1 x2).length < 1000 := by show 3 < 1000; decide
end
def fl_Room (x0 x1 x2 x3 x4 x5 : V) : List (Str × V) := [("now", x0), ("leases", x1), ("log", x2), ("kept", x3), ("watchers", x4), ("met", x5)]
section
variable {x0 x1 x2 x3 x4 x5 y : V}
theorem lk_Room_now : (fl_Room x0 x1 x2 x3 x4 x5).lookup ("now" : Str) = some x0 := by kernel_rfl
theorem pt_Room_now : putF "now" y (fl_Room x0 x1 x2 x3 x4 x5) = fl_Room y x1 x2 x3 x4 x5 := by kernel_rfl
theorem lk_Room_leases : (fl_Room x0 x1 x2 x3 x4 x5).lookup ("leases" : Str) = some x1 := by kernel_rfl
theorem pt_Room_leases : putF "leases" y (fl_Room x0 x1 x2 x3 x4 x5) = fl_Room x0 y x2 x3 x4 x5 := by kernel_rfl
theorem lk_Room_log : (fl_Room x0 x1 x2 x3 x4 x5).lookup ("log" : Str) = some x2 := by kernel_rfl
theorem pt_Room_log : putF "log" y (fl_Room x0 x1 x2 x3 x4 x5) = fl_Room x0 x1 y x3 x4 x5 := by kernel_rfl
theorem lk_Room_kept : (fl_Room x0 x1 x2 x3 x4 x5).lookup ("kept" : Str) = some x3 := by kernel_rfl
theorem pt_Room_kept : putF "kept" y (fl_Room x0 x1 x2 x3 x4 x5) = fl_Room x0 x1 x2 y x4 x5 := by kernel_rfl
theorem lk_Room_watchers : (fl_Room x0 x1 x2 x3 x4 x5).lookup ("watchers" : Str) = some x4 := by kernel_rfl
theorem pt_Room_watchers : putF "watchers" y (fl_Room x0 x1 x2 x3 x4 x5) = fl_Room x0 x1 x2 x3 y x5 := by kernel_rfl
theorem lk_Room_met : (fl_Room x0 x1 x2 x3 x4 x5).lookup ("met" : Str) = some x5 := by kernel_rfl
theorem pt_Room_met : putF "met" y (fl_Room x0 x1 x2 x3 x4 x5) = fl_Room x0 x1 x2 x3 x4 y := by kernel_rfl
theorem pi_Room_0 : putF "now" x0 [] = ([("now", x0)] : List (Str × V)) := by kernel_rfl
theorem pi_Room_1 : putF "leases" x1 ([("now", x0)] : List (Str × V)) = ([("now", x0), ("leases", x1)] : List (Str × V)) := by kernel_rfl
theorem pi_Room_2 : putF "log" x2 ([("now", x0), ("leases", x1)] : List (Str × V)) = ([("now", x0), ("leases", x1), ("log", x2)] : List (Str × V)) := by kernel_rfl
theorem pi_Room_3 : putF "kept" x3 ([("now", x0), ("leases", x1), ("log", x2)] : List (Str × V)) = ([("now", x0), ("leases", x1), ("log", x2), ("kept", x3)] : List (Str × V)) := by kernel_rfl
theorem pi_Room_4 : putF "watchers" x4 ([("now", x0), ("leases", x1), ("log", x2), ("kept", x3)] : List (Str × V)) = ([("now", x0), ("leases", x1), ("log", x2), ("kept", x3), ("watchers", x4)] : List (Str × V)) := by kernel_rfl
theorem pi_Room_5 : putF "met" x5 ([("now", x0), ("leases", x1), ("log", x2), ("kept", x3), ("watchers", x4)] : List (Str × V)) = (fl_Room x0 x1 x2 x3 x4 x5) := by kernel_rfl
theorem lz_Room : (fl_Room x0 x1 x2 x3 x4 x5).length < 1000 := by show 6 < 1000; decide
theorem lm_Room_grant : (fl_Room x0 x1 x2 x3 x4 x5).lookup ("grant" : Str) = none := by kernel_rfl
theorem lm_Room_renew : (fl_Room x0 x1 x2 x3 x4 x5).lookup ("renew" : Str) = none := by kernel_rfl
theorem lm_Room_drop : (fl_Room x0 x1 x2 x3 x4 x5).lookup ("drop" : Str) = none := by kernel_rfl
theorem lm_Room_wait : (fl_Room x0 x1 x2 x3 x4 x5).lookup ("wait" : Str) = none := by kernel_rfl
theorem lm_Room_free : (fl_Room x0 x1 x2 x3 x4 x5).lookup ("free" : Str) = none := by kernel_rfl
theorem lm_Room_put : (fl_Room x0 x1 x2 x3 x4 x5).lookup ("put" : Str) = none := by kernel_rfl
theorem lm_Room_cut : (fl_Room x0 x1 x2 x3 x4 x5).lookup ("cut" : Str) = none := by kernel_rfl
theorem lm_Room_value : (fl_Room x0 x1 x2 x3 x4 x5).lookup ("value" : Str) = none := by kernel_rfl
theorem lm_Room_holder : (fl_Room x0 x1 x2 x3 x4 x5).lookup ("holder" : Str) = none := by kernel_rfl
theorem lm_Room_pairs : (fl_Room x0 x1 x2 x3 x4 x5).lookup ("pairs" : Str) = none := by kernel_rfl
theorem lm_Room_last : (fl_Room x0 x1 x2 x3 x4 x5).lookup ("last" : Str) = none := by kernel_rfl
theorem lm_Room_first : (fl_Room x0 x1 x2 x3 x4 x5).lookup ("first" : Str) = none := by kernel_rfl
theorem lm_Room_watch : (fl_Room x0 x1 x2 x3 x4 x5).lookup ("watch" : Str) = none := by kernel_rfl
theorem lm_Room_need : (fl_Room x0 x1 x2 x3 x4 x5).lookup ("need" : Str) = none := by kernel_rfl
theorem lm_Room_pull : (fl_Room x0 x1 x2 x3 x4 x5).lookup ("pull" : Str) = none := by kernel_rfl
theorem lm_Room_confirm : (fl_Room x0 x1 x2 x3 x4 x5).lookup ("confirm" : Str) = none := by kernel_rfl
theorem lm_Room_broken : (fl_Room x0 x1 x2 x3 x4 x5).lookup ("broken" : Str) = none := by kernel_rfl
theorem lm_Room_leave : (fl_Room x0 x1 x2 x3 x4 x5).lookup ("leave" : Str) = none := by kernel_rfl
theorem lm_Room_trim : (fl_Room x0 x1 x2 x3 x4 x5).lookup ("trim" : Str) = none := by kernel_rfl
end
def rc_mf (x0 x1 : V) : List (Key × V) := [(Sum.inr "given", x0), (Sum.inr "free", x1)]
section
variable {x0 x1 y : V}
theorem rv_mf_given : valV (rc_mf x0 x1) (Sum.inr "given" : Key) = some x0 := by kernel_rfl
theorem rp_mf_given : putK (rc_mf x0 x1) (Sum.inr "given" : Key) y = rc_mf y x1 := by kernel_rfl
theorem rv_mf_free : valV (rc_mf x0 x1) (Sum.inr "free" : Key) = some x1 := by kernel_rfl
theorem rp_mf_free : putK (rc_mf x0 x1) (Sum.inr "free" : Key) y = rc_mf x0 y := by kernel_rfl
theorem rm_mf : mergeK [] (([(V.str "given", x0), (V.str "free", x1)] : List (V × V)).map keyOf) = (rc_mf x0 x1) := by kernel_rfl
theorem rl_mf : (rc_mf x0 x1).length < sizeLine := by show 2 < sizeLine; decide
end
end LW

set_option maxHeartbeats 0
namespace LW
open PySem PySem.Spec PyProof.Rows L2
def d0 : He.DefD := ⟨("_wall", none), "_wall", "_wall", defArgs s_wall, defBody s_wall, defScope s_wall, [], []⟩
def d1 : He.DefD := ⟨("Ear", some "__init__"), "__init__", "Ear.__init__", defArgs s_Ear_init, defBody s_Ear_init, defScope s_Ear_init, [.int 1, .non], []⟩
def d2 : He.DefD := ⟨("Ear", some "hear"), "hear", "Ear.hear", defArgs s_Ear_hear, defBody s_Ear_hear, defScope s_Ear_hear, [], []⟩
def d3 : He.DefD := ⟨("Ear", some "heard"), "heard", "Ear.heard", defArgs s_Ear_heard, defBody s_Ear_heard, defScope s_Ear_heard, [], []⟩
def d4 : He.DefD := ⟨("Ear", some "state"), "state", "Ear.state", defArgs s_Ear_state, defBody s_Ear_state, defScope s_Ear_state, [], []⟩
def d5 : He.DefD := ⟨("Line", some "__init__"), "__init__", "Line.__init__", defArgs s_Line_init, defBody s_Line_init, defScope s_Line_init, [.non], []⟩
def d6 : He.DefD := ⟨("Line", some "turn"), "turn", "Line.turn", defArgs s_Line_turn, defBody s_Line_turn, defScope s_Line_turn, [], []⟩
def d7 : He.DefD := ⟨("line_now", none), "line_now", "line_now", defArgs s_line_now, defBody s_line_now, defScope s_line_now, [], []⟩
def d8 : He.DefD := ⟨("Leases", some "__init__"), "__init__", "Leases.__init__", defArgs s_Leases_init, defBody s_Leases_init, defScope s_Leases_init, [], []⟩
def d9 : He.DefD := ⟨("Leases", some "grant"), "grant", "Leases.grant", defArgs s_Leases_grant, defBody s_Leases_grant, defScope s_Leases_grant, [], []⟩
def d10 : He.DefD := ⟨("Leases", some "need"), "need", "Leases.need", defArgs s_Leases_need, defBody s_Leases_need, defScope s_Leases_need, [], []⟩
def d11 : He.DefD := ⟨("Leases", some "renew"), "renew", "Leases.renew", defArgs s_Leases_renew, defBody s_Leases_renew, defScope s_Leases_renew, [], []⟩
def d12 : He.DefD := ⟨("Leases", some "drop"), "drop", "Leases.drop", defArgs s_Leases_drop, defBody s_Leases_drop, defScope s_Leases_drop, [], []⟩
def d13 : He.DefD := ⟨("Leases", some "due"), "due", "Leases.due", defArgs s_Leases_due, defBody s_Leases_due, defScope s_Leases_due, [], []⟩
def d14 : He.DefD := ⟨("Log", some "__init__"), "__init__", "Log.__init__", defArgs s_Log_init, defBody s_Log_init, defScope s_Log_init, [], []⟩
def d15 : He.DefD := ⟨("Log", some "note"), "note", "Log.note", defArgs s_Log_note, defBody s_Log_note, defScope s_Log_note, [], []⟩
def d16 : He.DefD := ⟨("Log", some "last"), "last", "Log.last", defArgs s_Log_last, defBody s_Log_last, defScope s_Log_last, [], []⟩
def d17 : He.DefD := ⟨("Log", some "first"), "first", "Log.first", defArgs s_Log_first, defBody s_Log_first, defScope s_Log_first, [], []⟩
def d18 : He.DefD := ⟨("Log", some "wanted"), "wanted", "Log.wanted", defArgs s_Log_wanted, defBody s_Log_wanted, defScope s_Log_wanted, [], []⟩
def d19 : He.DefD := ⟨("Log", some "forget"), "forget", "Log.forget", defArgs s_Log_forget, defBody s_Log_forget, defScope s_Log_forget, [], []⟩
def d20 : He.DefD := ⟨("Watcher", some "__init__"), "__init__", "Watcher.__init__", defArgs s_Watcher_init, defBody s_Watcher_init, defScope s_Watcher_init, [], []⟩
def d21 : He.DefD := ⟨("Room", some "__init__"), "__init__", "Room.__init__", defArgs s_Room_init, defBody s_Room_init, defScope s_Room_init, [], []⟩
def d22 : He.DefD := ⟨("Room", some "grant"), "grant", "Room.grant", defArgs s_Room_grant, defBody s_Room_grant, defScope s_Room_grant, [], []⟩
def d23 : He.DefD := ⟨("Room", some "renew"), "renew", "Room.renew", defArgs s_Room_renew, defBody s_Room_renew, defScope s_Room_renew, [], []⟩
def d24 : He.DefD := ⟨("Room", some "drop"), "drop", "Room.drop", defArgs s_Room_drop, defBody s_Room_drop, defScope s_Room_drop, [], []⟩
def d25 : He.DefD := ⟨("Room", some "wait"), "wait", "Room.wait", defArgs s_Room_wait, defBody s_Room_wait, defScope s_Room_wait, [], []⟩
def d26 : He.DefD := ⟨("Room", some "free"), "free", "Room.free", defArgs s_Room_free, defBody s_Room_free, defScope s_Room_free, [], []⟩
def d27 : He.DefD := ⟨("Room", some "put"), "put", "Room.put", defArgs s_Room_put, defBody s_Room_put, defScope s_Room_put, [.int 0], []⟩
def d28 : He.DefD := ⟨("Room", some "cut"), "cut", "Room.cut", defArgs s_Room_cut, defBody s_Room_cut, defScope s_Room_cut, [.int 0], []⟩
def d29 : He.DefD := ⟨("Room", some "value"), "value", "Room.value", defArgs s_Room_value, defBody s_Room_value, defScope s_Room_value, [], []⟩
def d30 : He.DefD := ⟨("Room", some "holder"), "holder", "Room.holder", defArgs s_Room_holder, defBody s_Room_holder, defScope s_Room_holder, [], []⟩
def d31 : He.DefD := ⟨("Room", some "pairs"), "pairs", "Room.pairs", defArgs s_Room_pairs, defBody s_Room_pairs, defScope s_Room_pairs, [], []⟩
def d32 : He.DefD := ⟨("Room", some "last"), "last", "Room.last", defArgs s_Room_last, defBody s_Room_last, defScope s_Room_last, [], []⟩
def d33 : He.DefD := ⟨("Room", some "first"), "first", "Room.first", defArgs s_Room_first, defBody s_Room_first, defScope s_Room_first, [], []⟩
def d34 : He.DefD := ⟨("Room", some "watch"), "watch", "Room.watch", defArgs s_Room_watch, defBody s_Room_watch, defScope s_Room_watch, [], []⟩
def d35 : He.DefD := ⟨("Room", some "need"), "need", "Room.need", defArgs s_Room_need, defBody s_Room_need, defScope s_Room_need, [], []⟩
def d36 : He.DefD := ⟨("Room", some "pull"), "pull", "Room.pull", defArgs s_Room_pull, defBody s_Room_pull, defScope s_Room_pull, [], []⟩
def d37 : He.DefD := ⟨("Room", some "confirm"), "confirm", "Room.confirm", defArgs s_Room_confirm, defBody s_Room_confirm, defScope s_Room_confirm, [], []⟩
def d38 : He.DefD := ⟨("Room", some "broken"), "broken", "Room.broken", defArgs s_Room_broken, defBody s_Room_broken, defScope s_Room_broken, [], []⟩
def d39 : He.DefD := ⟨("Room", some "leave"), "leave", "Room.leave", defArgs s_Room_leave, defBody s_Room_leave, defScope s_Room_leave, [], []⟩
def d40 : He.DefD := ⟨("Room", some "trim"), "trim", "Room.trim", defArgs s_Room_trim, defBody s_Room_trim, defScope s_Room_trim, [], []⟩
def d41 : He.DefD := ⟨("_law_whole", none), "_law_whole", "_law_whole", defArgs s_l_whole, defBody s_l_whole, defScope s_l_whole, [], []⟩
def d42 : He.DefD := ⟨("_law_cell_at", none), "_law_cell_at", "_law_cell_at", defArgs s_l_cell_at, defBody s_l_cell_at, defScope s_l_cell_at, [], []⟩
def d43 : He.DefD := ⟨("_law_sign", none), "_law_sign", "_law_sign", defArgs s_l_sign, defBody s_l_sign, defScope s_l_sign, [], []⟩
def d44 : He.DefD := ⟨("_law_text", none), "_law_text", "_law_text", defArgs s_l_text, defBody s_l_text, defScope s_l_text, [], []⟩
def d45 : He.DefD := ⟨("_law_pool", none), "_law_pool", "_law_pool", defArgs s_l_pool, defBody s_l_pool, defScope s_l_pool, [], []⟩
def d46 : He.DefD := ⟨("_law_prefix", none), "_law_prefix", "_law_prefix", defArgs s_l_prefix, defBody s_l_prefix, defScope s_l_prefix, [], []⟩
def d47 : He.DefD := ⟨("_law_only", none), "_law_only", "_law_only", defArgs s_l_only, defBody s_l_only, defScope s_l_only, [], []⟩
def d48 : He.DefD := ⟨("_law_call", none), "_law_call", "_law_call", defArgs s_l_call, defBody s_l_call, defScope s_l_call, [], []⟩
def d49 : He.DefD := ⟨("_law_done", none), "_law_done", "_law_done", defArgs s_l_done, defBody s_l_done, defScope s_l_done, [], []⟩
def d50 : He.DefD := ⟨("_law_alike", none), "_law_alike", "_law_alike", defArgs s_l_alike, defBody s_l_alike, defScope s_l_alike, [], []⟩
def d51 : He.DefD := ⟨("_law_ticks", none), "_law_ticks", "_law_ticks", defArgs s_l_ticks, defBody s_l_ticks, defScope s_l_ticks, [], []⟩
def d52 : He.DefD := ⟨("_law_deed", none), "_law_deed", "_law_deed", defArgs s_l_deed, defBody s_l_deed, defScope s_l_deed, [], []⟩
def d53 : He.DefD := ⟨("_law_pairs", none), "_law_pairs", "_law_pairs", defArgs s_l_pairs, defBody s_l_pairs, defScope s_l_pairs, [], []⟩
def d54 : He.DefD := ⟨("_law_did", none), "_law_did", "_law_did", defArgs s_l_did, defBody s_l_did, defScope s_l_did, [], []⟩
def d55 : He.DefD := ⟨("_law_key", none), "_law_key", "_law_key", defArgs s_l_key, defBody s_l_key, defScope s_l_key, [], []⟩
def d56 : He.DefD := ⟨("_law_crowd", none), "_law_crowd", "_law_crowd", defArgs s_l_crowd, defBody s_l_crowd, defScope s_l_crowd, [], []⟩
def d57 : He.DefD := ⟨("_law_knows", none), "_law_knows", "_law_knows", defArgs s_l_knows, defBody s_l_knows, defScope s_l_knows, [], []⟩
def d58 : He.DefD := ⟨("_law_stand", none), "_law_stand", "_law_stand", defArgs s_l_stand, defBody s_l_stand, defScope s_l_stand, [], []⟩
def d59 : He.DefD := ⟨("_law_begun", none), "_law_begun", "_law_begun", defArgs s_l_begun, defBody s_l_begun, defScope s_l_begun, [], []⟩
def d60 : He.DefD := ⟨("_law_step", none), "_law_step", "_law_step", defArgs s_l_step, defBody s_l_step, defScope s_l_step, [], []⟩
def d61 : He.DefD := ⟨("law", none), "law", "law", defArgs s_law, defBody s_law, defScope s_law, [], []⟩
def fn : List He.DefD := [d0, d1, d2, d3, d4, d5, d6, d7, d8, d9, d10, d11, d12, d13, d14, d15, d16, d17, d18, d19, d20, d21, d22, d23, d24, d25, d26, d27, d28, d29, d30, d31, d32, d33, d34, d35, d36, d37, d38, d39, d40, d41, d42, d43, d44, d45, d46, d47, d48, d49, d50, d51, d52, d53, d54, d55, d56, d57, d58, d59, d60, d61]
def fa : List He.Fa := [.glo "Ear", .glo "Line", .glo "LeaseError", .glo "BadTicks", .glo "NoLease", .glo "NoKey", .glo "Held", .glo "NoStart", .glo "NoWatch", .glo "Leases", .glo "Log", .glo "Watcher", .glo "Room", .glo "_wall", .glo "line_now", .glo "_law_whole", .glo "_law_cell_at", .glo "_law_sign", .glo "_law_text", .glo "_law_pool", .glo "_law_prefix", .glo "_law_only", .glo "_law_call", .glo "_law_done", .glo "_law_alike", .glo "_law_ticks", .glo "_law_deed", .glo "_law_pairs", .glo "_law_did", .glo "_law_key", .glo "_law_crowd", .glo "_law_knows", .glo "_law_stand", .glo "_law_begun", .glo "_law_step", .glo "law", .free "isinstance", .free "len", .free "sorted", .free "range", .free "int", .free "bool", .free "str", .free "list", .free "tuple", .free "ValueError", .free "min", .free "max", .free "abs", .free "zip", .int "MOST_TICKS" 1000000, .exc "LeaseError", .exc "BadTicks", .exm "BadTicks" "LeaseError" true, .exc "NoLease", .exm "NoLease" "LeaseError" true, .exc "NoKey", .exm "NoKey" "LeaseError" true, .exc "Held", .exm "Held" "LeaseError" true, .exc "NoStart", .exm "NoStart" "LeaseError" true, .exc "NoWatch", .exm "NoWatch" "LeaseError" true, .cls "Ear", .mkr "Ear", .noat "Ear" "behind", .noat "Ear" "begun", .noat "Ear" "rows", .meth "Ear" "hear", .meth "Ear" "heard", .meth "Ear" "state", .cls "Line", .mkr "Line", .noat "Line" "room", .noat "Line" "watcher", .noat "Line" "ear", .meth "Line" "turn", .cls "Leases", .mkr "Leases", .noat "Leases" "given", .noat "Leases" "spans", .noat "Leases" "ends", .meth "Leases" "grant", .meth "Leases" "need", .meth "Leases" "renew", .meth "Leases" "drop", .meth "Leases" "due", .cls "Log", .mkr "Log", .noat "Log" "rows", .noat "Log" "gone", .meth "Log" "note", .meth "Log" "last", .meth "Log" "first", .meth "Log" "wanted", .meth "Log" "forget", .cls "Watcher", .mkr "Watcher", .noat "Watcher" "prefix", .noat "Watcher" "had", .noat "Watcher" "told", .cls "Room", .mkr "Room", .noat "Room" "now", .noat "Room" "leases", .noat "Room" "log", .noat "Room" "kept", .noat "Room" "watchers", .noat "Room" "met", .meth "Room" "grant", .meth "Room" "renew", .meth "Room" "drop", .meth "Room" "wait", .meth "Room" "free", .meth "Room" "put", .meth "Room" "cut", .meth "Room" "value", .meth "Room" "holder", .meth "Room" "pairs", .meth "Room" "last", .meth "Room" "first", .meth "Room" "watch", .meth "Room" "need", .meth "Room" "pull", .meth "Room" "confirm", .meth "Room" "broken", .meth "Room" "leave", .meth "Room" "trim"]
def exq (K : PySem.W.Frag) : Bool := exkB (["BadTicks", "NoLease", "NoKey", "Held", "NoStart", "NoWatch"] : List Str) K && insB "Line" K
abbrev RW : PySem.W.OpenRow := PySem.W.OpenLaw.row PySem.Challenge.rw_leasewatch_k10_whole_ears_know_what_stan
abbrev hk : PySem.W.Hook := He.hookX 6 fa fn [] [] exq
def ob (s : PySem.W.SharedT) : He.AlX := He.obsX 6 fa fn [] [] exq (HandSHeadRun.getT s)
theorem ob_eq (s : PySem.W.SharedT) : ob s = hk.obs s.abs := He.obsX_eq (HandSHeadRun.getT_eq s)
def loose : List Str := (["BadTicks", "Ear", "Held", "LeaseError", "Leases", "Line", "Log", "MOST_TICKS", "NoKey", "NoLease", "NoStart", "NoWatch", "Room", "Watcher", "_law_alike", "_law_begun", "_law_call", "_law_cell_at", "_law_crowd", "_law_deed", "_law_did", "_law_done", "_law_key", "_law_knows", "_law_only", "_law_pairs", "_law_pool", "_law_prefix", "_law_sign", "_law_stand"] : List Str) ++ (["_law_step", "_law_text", "_law_ticks", "_law_whole", "_wall", "line_now"] : List Str)
abbrev runM : Nat := 5000
theorem run (w : World) : HandSHeadRun.RunEq RW (PySem.W.view RW.prog [42]) hk ob 5000 loose w := by
  intro os
  kernel_rfl

end LW
section
open PySem PySem.W PySem.Calls PyProof.Rows
theorem LW.holds_by (call : PySem.W.WalkO (view (OpenLaw.row PySem.Challenge.rw_leasewatch_k10_whole_ears_know_what_stan).prog [42]) LW.loose (PySem.W.XL (view (OpenLaw.row PySem.Challenge.rw_leasewatch_k10_whole_ears_know_what_stan).prog [42]) []) LW.hk.says (OpenLaw.row PySem.Challenge.rw_leasewatch_k10_whole_ears_know_what_stan).toRowW (HandSHeadRun.topDef (OpenLaw.row PySem.Challenge.rw_leasewatch_k10_whole_ears_know_what_stan).prog 42) [] fun f vs => PySem.call f vs) : PySem.Challenge.rw_leasewatch_k10_whole_ears_know_what_stan.Holds := by
  w_on; o_law
  refine HandSHeadRun.head_any (r := OpenLaw.row PySem.Challenge.rw_leasewatch_k10_whole_ears_know_what_stan) (q := view (OpenLaw.row PySem.Challenge.rw_leasewatch_k10_whole_ears_know_what_stan).prog [42]) (H := LW.hk) (ob := LW.ob) (M := LW.runM) (loose := LW.loose) (d := HandSHeadRun.topDef (OpenLaw.row PySem.Challenge.rw_leasewatch_k10_whole_ears_know_what_stan).prog 42) (kwd := []) LW.ob_eq
    (by kernel_rfl) (fun s => by kernel_rfl) LW.run (by kernel_rfl) (by kernel_rfl) (by kernel_rfl) (by rfl) (by first | assumption | decide +kernel) (by decide +kernel) ⟨rfl, rfl, rfl, rfl, rfl, by decide +kernel⟩ ?hw call
  case hw => w_witness2
end


set_option maxHeartbeats 4000000
namespace LW
open PySem PySem.Spec PyProof.Rows L2
local macro_rules | `(tactic| wtm_at "vk") => `(tactic| first
  | assumption
  | with_reducible exact rv_mf_given
  | with_reducible exact rv_mf_free
  | exact valV_sv (by assumption)
  | exact valV_iv (by assumption)
  | fail)
local macro_rules | `(tactic| wtm_at "pk") => `(tactic| first
  | with_reducible exact putK_iv
  | with_reducible exact dropK_ik
  | with_reducible exact dropK_sk
  | with_reducible exact rp_mf_given
  | with_reducible exact rp_mf_free
  | exact putK_sv
  | assumption
  | fail)
local macro_rules | `(tactic| wtm_at "rm") => `(tactic| first
  | with_reducible exact rm_mf
  | exact rfl
  | fail)
local macro_rules | `(tactic| wtm_at "rl") => `(tactic| first
  | with_reducible exact rl_mf
  | with_reducible assumption
  | fail)
local macro_rules | `(tactic| wtm_at "lk") => `(tactic| with_reducible first
  | exact lk_Ear_behind
  | exact lk_Ear_begun
  | exact lk_Ear_rows
  | exact lk_Line_room
  | exact lk_Line_watcher
  | exact lk_Line_ear
  | exact lk_Leases_given
  | exact lk_Leases_spans
  | exact lk_Leases_ends
  | exact lk_Log_rows
  | exact lk_Log_gone
  | exact lk_Watcher_prefix
  | exact lk_Watcher_had
  | exact lk_Watcher_told
  | exact lk_Room_now
  | exact lk_Room_leases
  | exact lk_Room_log
  | exact lk_Room_kept
  | exact lk_Room_watchers
  | exact lk_Room_met
  | fail)
local macro_rules | `(tactic| wtm_at "lm") => `(tactic| with_reducible first
  | exact lm_Ear_hear
  | exact lm_Ear_heard
  | exact lm_Ear_state
  | exact lm_Line_turn
  | exact lm_Leases_grant
  | exact lm_Leases_need
  | exact lm_Leases_renew
  | exact lm_Leases_drop
  | exact lm_Leases_due
  | exact lm_Log_note
  | exact lm_Log_last
  | exact lm_Log_first
  | exact lm_Log_wanted
  | exact lm_Log_forget
  | exact lm_Room_grant
  | exact lm_Room_renew
  | exact lm_Room_drop
  | exact lm_Room_wait
  | exact lm_Room_free
  | exact lm_Room_put
  | exact lm_Room_cut
  | exact lm_Room_value
  | exact lm_Room_holder
  | exact lm_Room_pairs
  | exact lm_Room_last
  | exact lm_Room_first
  | exact lm_Room_watch
  | exact lm_Room_need
  | exact lm_Room_pull
  | exact lm_Room_confirm
  | exact lm_Room_broken
  | exact lm_Room_leave
  | exact lm_Room_trim
  | fail)
local macro_rules | `(tactic| wtm_at "pt") => `(tactic| with_reducible first
  | exact pt_Ear_behind
  | exact pt_Ear_begun
  | exact pt_Ear_rows
  | exact pi_Ear_0
  | exact pi_Ear_1
  | exact pi_Ear_2
  | exact pt_Line_room
  | exact pt_Line_watcher
  | exact pt_Line_ear
  | exact pi_Line_0
  | exact pi_Line_1
  | exact pi_Line_2
  | exact pt_Leases_given
  | exact pt_Leases_spans
  | exact pt_Leases_ends
  | exact pi_Leases_0
  | exact pi_Leases_1
  | exact pi_Leases_2
  | exact pt_Log_rows
  | exact pt_Log_gone
  | exact pi_Log_0
  | exact pi_Log_1
  | exact pt_Watcher_prefix
  | exact pt_Watcher_had
  | exact pt_Watcher_told
  | exact pi_Watcher_0
  | exact pi_Watcher_1
  | exact pi_Watcher_2
  | exact pt_Room_now
  | exact pt_Room_leases
  | exact pt_Room_log
  | exact pt_Room_kept
  | exact pt_Room_watchers
  | exact pt_Room_met
  | exact pi_Room_0
  | exact pi_Room_1
  | exact pi_Room_2
  | exact pi_Room_3
  | exact pi_Room_4
  | exact pi_Room_5
  | fail)
local macro_rules | `(tactic| wtm_at "lz") => `(tactic| with_reducible first
  | exact lz_Ear
  | exact lz_Line
  | exact lz_Leases
  | exact lz_Log
  | exact lz_Watcher
  | exact lz_Room
  | (simp only [List.length_cons, List.length_nil]; decide)
  | exact (by decide)
  | fail)
local macro_rules | `(tactic| wtm_at "hf") => `(tactic| first
  | assumption
  | (refine' hf_s ?hs ?hx; (case hs => assumption); (case hx => wtm_at "hf"))
  | (refine' hf_n ?hs ?hx ?ne; (case hs => assumption); (case hx => wtm_at "hf"); (case ne => wtm_at "ne"))
  | (refine' hf_e ?hs ?hx ?hy; (case hs => assumption); (case hx => wtm_at "hf"); (case hy => wtm_at "nin"))
  | fail)
local macro_rules | `(tactic| wtm_at "ne") => `(tactic| first
  | assumption
  | (apply Ne.symm; assumption)
  | (refine' ne_of_none ?hx ?hy; (case hy => assumption); (case hx => wtm_at "hf"))
  | (refine' (ne_of_none ?hx ?hy).symm; (case hy => assumption); (case hx => wtm_at "hf"))
  | (refine' ne_of ?hx ?hy ?hz; (case hx => assumption); (case hy => assumption); (case hz => intro z; cases z))
  | fail)
local macro_rules | `(tactic| wtm_at "nin") => `(tactic| first
  | assumption
  | exact notin_nil
  | (refine' notin_cons ?hx ?hy; (case hx => wtm_at "ne"); (case hy => wtm_at "nin"))
  | fail)
local macro_rules | `(tactic| wtm_at "mem") => `(tactic| first
  | assumption
  | exact List.mem_cons_self
  | (refine' List.mem_cons_of_mem _ ?hx; (case hx => wtm_at "mem"))
  | fail)
local macro_rules | `(tactic| wtm_at "wr") => `(tactic| first
  | exact Or.inr (by assumption)
  | exact Or.inl (by wtm_at "mem")
  | fail)
local macro_rules | `(tactic| wtm_at "lv") => `(tactic| first
  | assumption
  | exact Live.nil
  | (refine' Live.cons ?hx ?hy; (case hx => wtm_at "hf"); (case hy => wtm_at "lv"))
  | fail)
local macro_rules | `(tactic| wtm_at "run") => `(tactic| first
  | assumption
  | (refine' Run.same ?hx ?hy; (case hy => assumption); (case hx => wtm_at "run"))
  | fail)
local macro_rules | `(tactic| wtm_at "sq") => `(tactic| first
  | assumption
  | (refine' Run.seq ?hx ?hy; (case hx => assumption); (case hy => assumption))
  | (refine' SqL.of ?hx; (case hx => wtm_at "hf"))
  | (refine' Same.seq ?hx ?hy; (case hx => assumption); (case hy => wtm_at "sq"))
  | (refine' Ext.seqL ?hx ?hz ?hy; (case hx => assumption); (case hy => wtm_at "sq"); (case hz => wtm_at "nin"))
  | fail)
local macro_rules | `(tactic| wtm_at "st") => `(tactic| first
  | assumption
  | (refine' SqT.of ?hx; (case hx => wtm_at "hf"))
  | fail)
local macro_rules | `(tactic| wtm_at "ix") => `(tactic| first
  | assumption
  | exact rfl
  | fail)
local macro_rules | `(tactic| wtm_at "sz") => `(tactic| first
  | wtm_at "rl"
  | with_reducible assumption
  | (rw [ik_len]; wtm_at "sz")
  | (rw [sk_len]; wtm_at "sz")
  | exact smallM (by assumption)
  | exact smallM (by omega)
  | exact smallM (by simp only [List.length_cons, List.length_nil, List.length_append, List.length_map]; omega)
  | fail)
local macro_rules | `(tactic| wtm_at "tx") => `(tactic| first
  | assumption
  | ((with_reducible refine' Tx.app ?hx ?hy); (case hx => wtm_at "tx"); (case hy => wtm_at "tx"))
  | ((with_reducible refine' Tx.cut ?hx); (case hx => wtm_at "tx"))
  | with_reducible exact Tx.nil
  | fail)
local macro_rules | `(tactic| wtm_at "k") => `(tactic| first
  | with_reducible refine k_seq ?_
  | with_reducible refine k_next ?_
  | with_reducible refine k_asg ?_
  | with_reducible refine k_ret ?_
  | with_reducible refine k_retN ?_
  | with_reducible refine k_asgS ?_
  | ((with_reducible refine' l_setL ?hr ?hx ?he ?h2 ?hw ?_); (case hr => wtm_at "run"); (case hx => wtm_at "hf"); (case he => exact rfl); (case h2 => exact rfl); (case hw => wtm_at "wr"); intro _ _ _ _)
  | with_reducible refine k_minD ?_
  | with_reducible refine k_drop ?_
  | with_reducible refine k_ifS ?_
  | ((with_reducible refine' k_var ?hx ?_); (case hx => exact rfl))
  | with_reducible refine k_c ?_
  | with_reducible refine k_negc ?_
  | with_reducible refine k_neg ?_
  | with_reducible refine l_neg ?_
  | with_reducible refine k_op ?_
  | with_reducible refine k_cb ?_
  | with_reducible refine k_nil ?_
  | with_reducible refine k_cons ?_
  | with_reducible refine k_test ?_
  | with_reducible refine k_B ?_
  | with_reducible refine k_not ?_
  | with_reducible refine k_and ?_
  | with_reducible refine k_or ?_
  | with_reducible refine k_notV ?_
  | with_reducible refine k_andV ?_
  | with_reducible refine k_orV ?_
  | with_reducible refine k_bl ?_
  | with_reducible refine k_add ?_
  | with_reducible refine k_sub ?_
  | ((with_reducible refine' k_mod ?hx ?_); (case hx => first | decide | omega))
  | ((with_reducible refine' k_div ?hx ?_); (case hx => first | exact ⟨by decide, by decide⟩ | exact ⟨by omega, by omega⟩))
  | ((with_reducible refine' k_mul ?hx ?_); (case hx => first | exact Or.inl ⟨by decide, by decide⟩ | exact Or.inr ⟨by decide, by decide⟩ | exact Or.inl ⟨by omega, by omega⟩))
  | with_reducible refine k_chain ?_
  | with_reducible refine k_p6 ?_
  | with_reducible refine k_p9 ?_
  | with_reducible refine k_p12 ?_
  | with_reducible refine k_p13 ?_
  | with_reducible refine k_p18 ?_
  | with_reducible refine k_p30 ?_
  | with_reducible refine k_lt ?_
  | with_reducible refine k_le ?_
  | with_reducible refine k_gt ?_
  | with_reducible refine k_ge ?_
  | with_reducible refine k_eq ?_
  | with_reducible refine k_ne ?_
  | with_reducible refine k_seqS ?_
  | with_reducible refine k_neS ?_
  | with_reducible refine k_neB ?_
  | with_reducible refine k_isN ?_
  | with_reducible refine k_noN ?_
  | with_reducible refine k_fld ?_
  | ((with_reducible refine' l_fld ?hx ?hy ?_); (case hx => wtm_at "hf"); (case hy => wtm_at "lk"))
  | with_reducible refine k_fldS ?_
  | ((with_reducible refine' l_fldS ?hr ?hx ?hz ?hy ?hw ?_); (case hr => wtm_at "run"); (case hx => wtm_at "hf"); (case hy => wtm_at "pt"); (case hz => wtm_at "lz"); (case hw => wtm_at "wr"); intro _ _ _ _)
  | ((with_reducible refine' l_new ?hr ?_); (case hr => wtm_at "run"); intro _ _ _ _ _ _ _ _)
  | with_reducible refine k_append ?_
  | ((with_reducible refine' l_tyL ?hx ?_); (case hx => wtm_at "hf"))
  | ((with_reducible refine' l_ins ?hx ?hy ?_); (case hx => wtm_at "hf"); (case hy => wtm_at "lm"))
  | with_reducible refine k_methS ?_
  | with_reducible refine k_methG ?_
  | with_reducible refine k_makeG ?_
  | with_reducible refine k_meth0 ?_
  | with_reducible refine k_callS ?_
  | with_reducible refine k_callE ?_
  | with_reducible refine k_dget ?_
  | with_reducible refine k_din ?_
  | with_reducible refine k_dnotin ?_
  | with_reducible refine k_dput ?_
  | with_reducible refine k_dpop ?_
  | with_reducible refine k_dget2 ?_
  | with_reducible refine k_tup ?_
  | with_reducible refine k_lst ?_
  | with_reducible refine k_dnew ?_
  | ((with_reducible refine' l_tup ?hx ?_); (case hx => simp only [List.length_cons, List.length_nil]; decide))
  | ((with_reducible refine' l_lst ?hx ?_); (case hx => simp only [List.length_cons, List.length_nil]; decide))
  | ((with_reducible refine' l_isD ?hx ?_); (case hx => wtm_at "hf"))
  | ((with_reducible refine' l_dinI ?hx ?_); (case hx => wtm_at "hf"))
  | ((with_reducible refine' l_dinS ?hx ?_); (case hx => wtm_at "hf"))
  | ((with_reducible refine' l_dnotinI ?hx ?_); (case hx => wtm_at "hf"))
  | ((with_reducible refine' l_dnotinS ?hx ?_); (case hx => wtm_at "hf"))
  | ((with_reducible refine' l_dputI ?hr ?hx ?hz ?hy ?hw ?_); (case hr => wtm_at "run"); (case hx => wtm_at "hf"); (case hy => wtm_at "pk"); (case hz => wtm_at "sz"); (case hw => wtm_at "wr"); intro _ _ _ _)
  | ((with_reducible refine' l_dputS ?hr ?hx ?hz ?hy ?hw ?_); (case hr => wtm_at "run"); (case hx => wtm_at "hf"); (case hy => wtm_at "pk"); (case hz => wtm_at "sz"); (case hw => wtm_at "wr"); intro _ _ _ _)
  | ((with_reducible refine' l_dpopI ?hr ?hx ?hz ?hy ?hw ?_); (case hr => wtm_at "run"); (case hx => wtm_at "hf"); (case hy => wtm_at "pk"); (case hz => wtm_at "vk"); (case hw => wtm_at "wr"); intro _ _ _ _)
  | ((with_reducible refine' l_dpopS ?hr ?hx ?hz ?hy ?hw ?_); (case hr => wtm_at "run"); (case hx => wtm_at "hf"); (case hy => wtm_at "pk"); (case hz => wtm_at "vk"); (case hw => wtm_at "wr"); intro _ _ _ _)
  | ((with_reducible refine' l_dgetI ?hx ?hz ?_); (case hx => wtm_at "hf"); (case hz => wtm_at "vk"))
  | ((with_reducible refine' l_dgetS ?hx ?hz ?_); (case hx => wtm_at "hf"); (case hz => wtm_at "vk"))
  | ((with_reducible refine' l_dgetIF ?hx ?hz ?_); (case hx => wtm_at "hf"); (case hz => wtm_at "vk"))
  | ((with_reducible refine' l_dgetSF ?hx ?hz ?_); (case hx => wtm_at "hf"); (case hz => wtm_at "vk"))
  | ((with_reducible refine' l_dgetZ ?hx ?hz ?_); (case hx => wtm_at "hf"); (case hz => wtm_at "vk"))
  | ((with_reducible refine' k_disp ?hr ?_); (case hr => wtm_at "run"); intro _ _ _ _ _ _ _ _)
  | with_reducible refine k_pcons ?_
  | with_reducible refine k_pnil ?_
  | ((with_reducible refine' l_disp ?hr ?hx ?hu ?hv ?hy ?hw ?_); (case hr => wtm_at "run"); (case hx => wtm_at "hf"); (case hu => exact rfl); (case hv => simp only [List.length_map, List.length_cons, List.length_nil]; decide); (case hy => wtm_at "rm"); (case hw => wtm_at "wr"); intro _ _ _ _)
  | ((with_reducible refine' l_append ?hr ?hx ?hz ?hw ?_); (case hr => wtm_at "run"); (case hx => wtm_at "hf"); (case hz => wtm_at "sz"); (case hw => wtm_at "wr"); intro _ _ _ _)
  | ((with_reducible refine' l_isEt ?hx ?_); (case hx => first | exact isD (ExcK.kit (by assumption) _ (by wtm_at "mem") _ (by wtm_at "mem")) | exact isC (ExcK.kit (by assumption) _ (by wtm_at "mem") _ (by wtm_at "mem")) (by decide)))
  | ((with_reducible refine' l_isEV ?hx ?_); (case hx => exact ExcK.kitV (by assumption) _ (by wtm_at "mem")))
  | ((with_reducible refine' l_isiI ?hx ?_); (case hx => first | rfl | assumption))
  | ((with_reducible refine' l_isiB ?hx ?_); (case hx => first | rfl | assumption))
  | with_reducible refine l_isiSS ?_
  | ((with_reducible refine' l_isiS ?hx ?_); (case hx => first | rfl | assumption))
  | ((with_reducible refine' l_isiL ?hx ?_); (case hx => wtm_at "hf"))
  | ((with_reducible refine' l_isiO ?hx ?hy ?hz ?_); (case hx => wtm_at "hf"); (case hy => assumption); (case hz => assumption))
  | ((with_reducible refine' l_isiT ?hx ?_); (case hx => wtm_at "hf"))
  | ((with_reducible refine' l_lenL ?hx ?_); (case hx => wtm_at "sq"))
  | ((with_reducible refine' l_lenT ?hx ?_); (case hx => wtm_at "st"))
  | ((with_reducible refine' l_lenDK ?hx ?_); (case hx => wtm_at "hf"))
  | ((with_reducible refine' l_ixL ?hx ?hy ?_); (case hx => wtm_at "sq"); (case hy => wtm_at "ix"))
  | ((with_reducible refine' l_ixT ?hx ?hy ?_); (case hx => wtm_at "st"); (case hy => wtm_at "ix"))
  | with_reducible refine k_m1 ?_
  | with_reducible refine l_strX ?_
  | with_reducible refine l_sw ?_
  | ((with_reducible refine' x_addS ?hx ?hy ?hz ?_); (case hx => wtm_at "tx"); (case hy => wtm_at "tx"); (case hz => decide))
  | ((with_reducible refine' x_slS ?hx ?hz ?_); (case hx => wtm_at "tx"); (case hz => decide))
  | ((with_reducible refine' x_lenX ?hx ?hz ?_); (case hx => wtm_at "tx"); (case hz => decide))
  | with_reducible refine l_max ?_
  | with_reducible refine l_min ?_
  | with_reducible refine l_abs ?_
  | with_reducible refine k_sl ?_
  | with_reducible refine k_part ?_
  | with_reducible refine l_part ?_
  | with_reducible refine k_nopart ?_
  | with_reducible refine k_yes ?_
  | ((with_reducible refine' l_slL ?hr ?hx ?_); (case hr => wtm_at "run"); (case hx => wtm_at "sq"); intro _ _ _ _ _ _ _ _)
  | with_reducible refine k_lcL ?_
  | with_reducible refine k_lcR ?_
  | with_reducible refine k_for ?_
  | with_reducible refine k_zip ?_
  | with_reducible refine k_rng1 ?_
  | with_reducible refine k_rng2 ?_
  | with_reducible refine k_rng3 ?_
  | with_reducible refine k_makeS ?_
  | ((with_reducible refine' l_make ?hr ?_); (case hr => wtm_at "run"); intro _ _ _ _ _ _ _ _ _)
  | with_reducible refine k_ntt ?_
  | with_reducible refine k_ntf ?_
  | with_reducible refine k_clear ?_
  | ((with_reducible refine' l_clear ?hr ?hx ?hw ?_); (case hr => wtm_at "run"); (case hx => wtm_at "hf"); (case hw => wtm_at "wr"); intro _ _ _ _)
  | with_reducible refine k_ift ?_
  | with_reducible refine k_iff ?_
  | with_reducible refine g_name ?_
  | with_reducible refine k_revL ?_
  | ((with_reducible refine' l_tupL ?hx ?_); (case hx => wtm_at "sq"))
  | with_reducible refine l_intB ?_
  | ((with_reducible refine' l_rev ?hx ?_); (case hx => wtm_at "sq"))
  | ((with_reducible refine' l_gT2 ?hn ?hx ?_); (case hn => exact rfl); (case hx => wtm_at "st"))
  | ((with_reducible refine' l_listL ?hx ?_); (case hx => wtm_at "sq"))
  | ((with_reducible refine' l_listT ?hx ?_); (case hx => wtm_at "st"))
  | fail)
section
variable {P : Program} {w : World} {K : PySem.W.Frag} {mg : Str → Option Value} {base : Heap}
def sp_l_whole (K : PySem.W.Frag) : Sp := fun vs H Q _ => ∃ v, vs = [v] ∧ simpV v = true ∧ Q (.bl (isI v)) H
theorem sc_l_whole : FnScope ["_law_found"] ["_law_found"] (defScope s_l_whole) := ⟨rfl, rfl, rfl, by decide +kernel, rfl, by decide +kernel, by decide +kernel⟩
theorem ok_l_whole (T : FX K mg) : FnOk P w K mg base (L2N.CX P w) 1 (He.ga K "_law_whole") (fdAt K ("_law_whole", none)) ["_law_found"] (sp_l_whole K) := by
  refine FunD.ok T.F_l_whole sc_l_whole (fun vs H Q E h => ?_) (fun cdv A outer s H vs Q E hr h => ?_)
  · (repeat (obtain ⟨_, h⟩ := h)); subst_vars; rfl
  · have hu := hu_of hr
    have hu64 := hr.units
    refine ⟨_,
      (pss_one
        (ps_ret (pe_and (pe_callB call_isi (by rfl) T.f_isinstance (by decide +kernel) (pa_cons (pv 0) (pa_cons (pe_bltT (n := "int") rfl T.f_int (by decide +kernel)) pa_nil))) (pe_one (pe_not (pe_callB call_isi (by rfl) T.f_isinstance (by decide +kernel) (pa_cons (pv 0) (pa_cons (pe_bltT (n := "bool") rfl T.f_bool (by decide +kernel)) pa_nil)))))))), ?_⟩
    obtain ⟨v, rfl, hv, k⟩ := h
    repeat wtm_at "k"
    cases v with
    | int i =>
      refine k_ift ?_
      repeat wtm_at "k"
      exact k
    | bl b =>
      refine k_ift ?_
      repeat wtm_at "k"
      exact k
    | non => exact k_iff k
    | str x => exact k_iff k
    | _ => cases hv
/-- script[k], or 0 -/
def cellD (ns : List Int) (k : Int) : Int := ns.getD k.toNat 0
def sp_l_cell_at (K : PySem.W.Frag) : Sp := fun vs H Q _ => ∃ a ns k, vs = [.ref a, .int k] ∧ 0 ≤ k ∧ SqL K H a (ns.map V.int) ∧ Q (.int (cellD ns k)) H
theorem sc_l_cell_at : FnScope ["_law_script", "_law_k"] ["_law_script", "_law_k"] (defScope s_l_cell_at) := ⟨rfl, rfl, rfl, by decide +kernel, rfl, by decide +kernel, by decide +kernel⟩
theorem ok_l_cell_at (T : FX K mg) : FnOk P w K mg base (L2N.CX P w) 1 (He.ga K "_law_cell_at") (fdAt K ("_law_cell_at", none)) ["_law_script", "_law_k"] (sp_l_cell_at K) := by
  refine FunD.ok T.F_l_cell_at sc_l_cell_at (fun vs H Q E h => ?_) (fun cdv A outer s H vs Q E hr h => ?_)
  · (repeat (obtain ⟨_, h⟩ := h)); subst_vars; rfl
  · have hu := hu_of hr
    have hu64 := hr.units
    refine ⟨_,
      (pss_cons
        (ps_if (pt_cmpR oIlt (pv 1) (pe_callB oLen (by rfl) T.f_len PySem.boot_len (pa_cons (pv 0) pa_nil)) (nomark _))
          (pss_one
            (ps_ret (pe_ix ix_list (pv 0) (pv 1) (fun _ _ => rfl))))
          pss_nil)
      (pss_one
        (ps_ret pe_int))), ?_⟩
    obtain ⟨a, ns, k, rfl, h0, hS, kk⟩ := h
    repeat wtm_at "k"
    rw [List.length_map]
    refine k_ifd (fun c => ?_) fun c => ?_
    · repeat wtm_at "k"
      refine l_ixL hS (atI_map (d := 0) (by omega) c) ?_
      exact kk
    · have e : cellD ns k = 0 := by
        unfold cellD
        rw [List.getD_eq_getElem?_getD, List.getElem?_eq_none (by omega)]
        rfl
      repeat wtm_at "k"
      rw [e] at kk
      exact kk
theorem k_whole {H : Hp} {Q : VK} {E : XK} {v : V} (h : simpV v = true) (q : Q (.bl (isI v)) H) : sp_l_whole K [v] H Q E := ⟨v, rfl, h, q⟩
theorem k_wholeI {H : Hp} {Q : VK} {E : XK} {i : Int} (q : Q (.bl true) H) : sp_l_whole K [.int i] H Q E := ⟨.int i, rfl, rfl, q⟩
theorem k_cell {H : Hp} {Q : VK} {E : XK} {a : Addr} {ns : List Int} {k : Int} (h0 : 0 ≤ k) (hS : SqL K H a (ns.map V.int)) (q : Q (.int (cellD ns k)) H) : sp_l_cell_at K [.ref a, .int k] H Q E := ⟨a, ns, k, rfl, h0, hS, q⟩
def ticksOf (c m : Int) : Int := if m % 4 = 0 then ([0, 1, 1000000, 1000001, -1, 1000000000, 1000000000000000000000000000000, -1000000000] : List Int).getD (c % 8).toNat 0 else if m % 4 = 1 then c % 1000003 else 1 + c % 6
def sp_l_ticks (K : PySem.W.Frag) : Sp := fun vs H Q _ => ∃ c m, vs = [.int c, .int m] ∧ ∀ H', Ext [] H H' → Q (.int (ticksOf c m)) H'
theorem sc_l_ticks : FnScope ["_law_cell", "_law_more"] ["_law_cell", "_law_more"] (defScope s_l_ticks) := ⟨rfl, rfl, rfl, by decide +kernel, rfl, by decide +kernel, by decide +kernel⟩
theorem ok_l_ticks (T : FX K mg) : FnOk P w K mg base (L2N.CX P w) 1 (He.ga K "_law_ticks") (fdAt K ("_law_ticks", none)) ["_law_cell", "_law_more"] (sp_l_ticks K) := by
  refine FunD.ok T.F_l_ticks sc_l_ticks (fun vs H Q E h => ?_) (fun cdv A outer s H vs Q E hr h => ?_)
  · (repeat (obtain ⟨_, h⟩ := h)); subst_vars; rfl
  · have hu := hu_of hr
    have hu64 := hr.units
    refine ⟨_,
      (pss_cons
        (ps_if (pt_cmpR oIeq (pe_op oImod (pv 1) pe_int) pe_int (nomark _))
          (pss_one
            (ps_ret (pe_ix ix_list (pe_lst (pa_cons pe_int (pa_cons pe_int (pa_cons pe_int (pa_cons pe_int (pa_cons (pe_un un_neg pe_int) (pa_cons (pe_op oIpow pe_int pe_int) (pa_cons (pe_op oIpow pe_int pe_int) (pa_cons (pe_un un_neg (pe_op oIpow pe_int pe_int)) pa_nil))))))))) (pe_op oImod (pv 0) pe_int) (fun _ _ => rfl))))
          pss_nil)
      (pss_cons
        (ps_if (pt_cmpR oIeq (pe_op oImod (pv 1) pe_int) pe_int (nomark _))
          (pss_one
            (ps_ret (pe_op oImod (pv 0) pe_int)))
          pss_nil)
      (pss_one
        (ps_ret (pe_op oIadd pe_int (pe_op oImod (pv 0) pe_int)))))), ?_⟩
    obtain ⟨c, m, rfl, kk⟩ := h
    unfold ticksOf at kk
    have R0 : Run [] H H := Run.start Live.nil
    repeat wtm_at "k"
    refine k_ifd (fun c0 => ?_) fun c0 => ?_
    · rw [if_pos c0] at kk
      repeat wtm_at "k"
      refine l_ixL (xs := ([0, 1, 1000000, 1000001, -1, 1000000000, 1000000000000000000000000000000, -1000000000] : List Int).map V.int) (by wtm_at "sq") (atI_map (d := 0) (by omega) (by show c % 8 < 8; omega)) ?_
      exact kk _ (Run.ext (by assumption))
    · rw [if_neg c0] at kk
      repeat wtm_at "k"
      refine k_ifd (fun c1 => ?_) fun c1 => ?_
      · rw [if_pos c1] at kk
        repeat wtm_at "k"
        exact kk _ (Ext.refl _ _)
      · rw [if_neg c1] at kk
        repeat wtm_at "k"
        exact kk _ (Ext.refl _ _)
abbrev excN : List Str := ["BadTicks", "NoLease", "NoKey", "Held", "NoStart", "NoWatch"]
def sp_l_only (K : PySem.W.Frag) : SpE := fun a c d vs H Q _ => ∃ D, D ∈ excN ∧ c = .ref (He.ga K D) ∧ d = none ∧ ∃ word, vs = [.ref a, .str word] ∧ PyData.strOk word = true ∧ ∀ H', Ext [] H H' → Q (.bl (decide (D = word))) H'
theorem sc_l_only : FnScope ["_law_error", "_law_word", "_law_words"] ["_law_error", "_law_word"] (defScope s_l_only) := ⟨rfl, rfl, rfl, by decide +kernel, rfl, by decide +kernel, by decide +kernel⟩
theorem ok_l_only (T : FX K mg) : FnE P w K mg base 1 (He.ga K "_law_only") (fdAt K ("_law_only", none)) ["_law_error", "_law_word"] (sp_l_only K) := by
  refine fnE_of T.F_l_only sc_l_only (fun a c d vs H Q E h => ?_) (fun cdv A outer s H vs Q E q c d hot hz hr h => ?_)
  · (repeat (obtain ⟨_, h⟩ := h)); subst_vars; rfl
  · obtain ⟨D, hD, rfl, rfl, h⟩ := h
    have EC := T.xk.exC D hD
    have hf : ∃ vs, q.2.data = .fields vs := let ⟨_, vs, e, _⟩ := hot; ⟨vs, e⟩
    have hu64 := hu64H hr
    have hu := hu1H hr
    refine ⟨_,
      (pss_cons
        (ps_set (i := 2) sc_l_only.nd rfl (Or.inl rfl) (pe_lst pa_nil))
      (pss_cons
        (ps_if (pt_val (pe_callB (call_isP List.mem_cons_self EC hz hf) (by rfl) T.f_isinstance (by decide +kernel) (pa_cons (pv 0) (pa_cons (pe_glob (v := .ref (He.ga K "BadTicks")) rfl T.g_BadTicks rfl) pa_nil))))
          (pss_one
            (ps_expr (pe_bm PySem.F.plainAttrs_list PySem.F.slot_list_append PySem.F.type_list_append mt_append (pv 2) (pa_cons pe_str pa_nil))))
          pss_nil)
      (pss_cons
        (ps_if (pt_val (pe_callB (call_isP List.mem_cons_self EC hz hf) (by rfl) T.f_isinstance (by decide +kernel) (pa_cons (pv 0) (pa_cons (pe_glob (v := .ref (He.ga K "NoLease")) rfl T.g_NoLease rfl) pa_nil))))
          (pss_one
            (ps_expr (pe_bm PySem.F.plainAttrs_list PySem.F.slot_list_append PySem.F.type_list_append mt_append (pv 2) (pa_cons pe_str pa_nil))))
          pss_nil)
      (pss_cons
        (ps_if (pt_val (pe_callB (call_isP List.mem_cons_self EC hz hf) (by rfl) T.f_isinstance (by decide +kernel) (pa_cons (pv 0) (pa_cons (pe_glob (v := .ref (He.ga K "NoKey")) rfl T.g_NoKey rfl) pa_nil))))
          (pss_one
            (ps_expr (pe_bm PySem.F.plainAttrs_list PySem.F.slot_list_append PySem.F.type_list_append mt_append (pv 2) (pa_cons pe_str pa_nil))))
          pss_nil)
      (pss_cons
        (ps_if (pt_val (pe_callB (call_isP List.mem_cons_self EC hz hf) (by rfl) T.f_isinstance (by decide +kernel) (pa_cons (pv 0) (pa_cons (pe_glob (v := .ref (He.ga K "Held")) rfl T.g_Held rfl) pa_nil))))
          (pss_one
            (ps_expr (pe_bm PySem.F.plainAttrs_list PySem.F.slot_list_append PySem.F.type_list_append mt_append (pv 2) (pa_cons pe_str pa_nil))))
          pss_nil)
      (pss_cons
        (ps_if (pt_val (pe_callB (call_isP List.mem_cons_self EC hz hf) (by rfl) T.f_isinstance (by decide +kernel) (pa_cons (pv 0) (pa_cons (pe_glob (v := .ref (He.ga K "NoStart")) rfl T.g_NoStart rfl) pa_nil))))
          (pss_one
            (ps_expr (pe_bm PySem.F.plainAttrs_list PySem.F.slot_list_append PySem.F.type_list_append mt_append (pv 2) (pa_cons pe_str pa_nil))))
          pss_nil)
      (pss_cons
        (ps_if (pt_val (pe_callB (call_isP List.mem_cons_self EC hz hf) (by rfl) T.f_isinstance (by decide +kernel) (pa_cons (pv 0) (pa_cons (pe_glob (v := .ref (He.ga K "NoWatch")) rfl T.g_NoWatch rfl) pa_nil))))
          (pss_one
            (ps_expr (pe_bm PySem.F.plainAttrs_list PySem.F.slot_list_append PySem.F.type_list_append mt_append (pv 2) (pa_cons pe_str pa_nil))))
          pss_nil)
      (pss_one
        (ps_ret (pe_and (pe_callB (call_isP List.mem_cons_self EC hz hf) (by rfl) T.f_isinstance (by decide +kernel) (pa_cons (pv 0) (pa_cons (pe_bltT (n := "ValueError") rfl T.f_ValueError (by decide +kernel)) pa_nil))) (pe_one (pe_cmpR (op_eqD hu64) (pv 2) (pe_lst (pa_cons (pv 1) pa_nil)) (nomark _))))))))))))), ?_⟩
    obtain ⟨word, rfl, ho, kk⟩ := h
    have R0 : Run [] H H := Run.start Live.nil
    have EK := T.xk
    simp only [List.mem_cons, List.not_mem_nil, or_false] at hD
    have fin : ∀ (D0 : Str) (pa pb : Addr) (H' : Hp), PyData.strOk D0 = true → Run [] H H' → SqL K H' pa ([D0].map V.str) → SqL K H' pb ([word].map V.str) → (∀ H', Ext [] H H' → Q (V.bl (decide (D0 = word))) H') → rEqD K (.ref pa) (.ref pb) H' Q := by
      intro D0 pa pb H' o1 r s1 s2 kk
      refine l_eqTx (xs := [D0]) (ys := [word]) (by intro x m; rw [List.mem_singleton.mp m]; exact o1) (by intro x m; rw [List.mem_singleton.mp m]; exact ho) s1 s2 ?_
      have e : decide ([D0] = [word]) = decide (D0 = word) := by simp
      rw [e]
      exact kk _ r.ext
    rcases hD with rfl | rfl | rfl | rfl | rfl | rfl
    all_goals
      repeat wtm_at "k"
      refine fin _ _ _ _ (by decide +kernel) (by assumption) (by wtm_at "sq") (by wtm_at "sq") kk
theorem only_sp {a : Addr} {D0 : Str} (hD : D0 ∈ excN) (word : Str) (H : Hp) (Q : VK) (ho : PyData.strOk word = true) (k : ∀ H', Ext [] H H' → Q (.bl (decide (D0 = word))) H') : sp_l_only K a (.ref (He.ga K D0)) none [.ref a, .str word] H Q E0 := ⟨D0, hD, rfl, rfl, word, rfl, ho, k⟩
end
end LW

set_option maxHeartbeats 4000000
namespace LW
open PySem PySem.Spec PyProof.Rows L2
local macro_rules | `(tactic| wtm_at "vk") => `(tactic| first
  | assumption
  | with_reducible exact rv_mf_given
  | with_reducible exact rv_mf_free
  | exact valV_sv (by assumption)
  | exact valV_iv (by assumption)
  | fail)
local macro_rules | `(tactic| wtm_at "pk") => `(tactic| first
  | with_reducible exact putK_iv
  | with_reducible exact dropK_ik
  | with_reducible exact dropK_sk
  | with_reducible exact rp_mf_given
  | with_reducible exact rp_mf_free
  | exact putK_sv
  | assumption
  | fail)
local macro_rules | `(tactic| wtm_at "rm") => `(tactic| first
  | with_reducible exact rm_mf
  | exact rfl
  | fail)
local macro_rules | `(tactic| wtm_at "rl") => `(tactic| first
  | with_reducible exact rl_mf
  | with_reducible assumption
  | fail)
local macro_rules | `(tactic| wtm_at "lk") => `(tactic| with_reducible first
  | exact lk_Ear_behind
  | exact lk_Ear_begun
  | exact lk_Ear_rows
  | exact lk_Line_room
  | exact lk_Line_watcher
  | exact lk_Line_ear
  | exact lk_Leases_given
  | exact lk_Leases_spans
  | exact lk_Leases_ends
  | exact lk_Log_rows
  | exact lk_Log_gone
  | exact lk_Watcher_prefix
  | exact lk_Watcher_had
  | exact lk_Watcher_told
  | exact lk_Room_now
  | exact lk_Room_leases
  | exact lk_Room_log
  | exact lk_Room_kept
  | exact lk_Room_watchers
  | exact lk_Room_met
  | fail)
local macro_rules | `(tactic| wtm_at "lm") => `(tactic| with_reducible first
  | exact lm_Ear_hear
  | exact lm_Ear_heard
  | exact lm_Ear_state
  | exact lm_Line_turn
  | exact lm_Leases_grant
  | exact lm_Leases_need
  | exact lm_Leases_renew
  | exact lm_Leases_drop
  | exact lm_Leases_due
  | exact lm_Log_note
  | exact lm_Log_last
  | exact lm_Log_first
  | exact lm_Log_wanted
  | exact lm_Log_forget
  | exact lm_Room_grant
  | exact lm_Room_renew
  | exact lm_Room_drop
  | exact lm_Room_wait
  | exact lm_Room_free
  | exact lm_Room_put
  | exact lm_Room_cut
  | exact lm_Room_value
  | exact lm_Room_holder
  | exact lm_Room_pairs
  | exact lm_Room_last
  | exact lm_Room_first
  | exact lm_Room_watch
  | exact lm_Room_need
  | exact lm_Room_pull
  | exact lm_Room_confirm
  | exact lm_Room_broken
  | exact lm_Room_leave
  | exact lm_Room_trim
  | fail)
local macro_rules | `(tactic| wtm_at "pt") => `(tactic| with_reducible first
  | exact pt_Ear_behind
  | exact pt_Ear_begun
  | exact pt_Ear_rows
  | exact pi_Ear_0
  | exact pi_Ear_1
  | exact pi_Ear_2
  | exact pt_Line_room
  | exact pt_Line_watcher
  | exact pt_Line_ear
  | exact pi_Line_0
  | exact pi_Line_1
  | exact pi_Line_2
  | exact pt_Leases_given
  | exact pt_Leases_spans
  | exact pt_Leases_ends
  | exact pi_Leases_0
  | exact pi_Leases_1
  | exact pi_Leases_2
  | exact pt_Log_rows
  | exact pt_Log_gone
  | exact pi_Log_0
  | exact pi_Log_1
  | exact pt_Watcher_prefix
  | exact pt_Watcher_had
  | exact pt_Watcher_told
  | exact pi_Watcher_0
  | exact pi_Watcher_1
  | exact pi_Watcher_2
  | exact pt_Room_now
  | exact pt_Room_leases
  | exact pt_Room_log
  | exact pt_Room_kept
  | exact pt_Room_watchers
  | exact pt_Room_met
  | exact pi_Room_0
  | exact pi_Room_1
  | exact pi_Room_2
  | exact pi_Room_3
  | exact pi_Room_4
  | exact pi_Room_5
  | fail)
local macro_rules | `(tactic| wtm_at "lz") => `(tactic| with_reducible first
  | exact lz_Ear
  | exact lz_Line
  | exact lz_Leases
  | exact lz_Log
  | exact lz_Watcher
  | exact lz_Room
  | (simp only [List.length_cons, List.length_nil]; decide)
  | exact (by decide)
  | fail)
local macro_rules | `(tactic| wtm_at "hf") => `(tactic| first
  | assumption
  | (refine' hf_s ?hs ?hx; (case hs => assumption); (case hx => wtm_at "hf"))
  | (refine' hf_n ?hs ?hx ?ne; (case hs => assumption); (case hx => wtm_at "hf"); (case ne => wtm_at "ne"))
  | (refine' hf_e ?hs ?hx ?hy; (case hs => assumption); (case hx => wtm_at "hf"); (case hy => wtm_at "nin"))
  | fail)
local macro_rules | `(tactic| wtm_at "ne") => `(tactic| first
  | assumption
  | (apply Ne.symm; assumption)
  | (refine' ne_of_none ?hx ?hy; (case hy => assumption); (case hx => wtm_at "hf"))
  | (refine' (ne_of_none ?hx ?hy).symm; (case hy => assumption); (case hx => wtm_at "hf"))
  | (refine' ne_of ?hx ?hy ?hz; (case hx => assumption); (case hy => assumption); (case hz => intro z; cases z))
  | fail)
local macro_rules | `(tactic| wtm_at "nin") => `(tactic| first
  | assumption
  | exact notin_nil
  | (refine' notin_cons ?hx ?hy; (case hx => wtm_at "ne"); (case hy => wtm_at "nin"))
  | fail)
local macro_rules | `(tactic| wtm_at "mem") => `(tactic| first
  | assumption
  | exact List.mem_cons_self
  | (refine' List.mem_cons_of_mem _ ?hx; (case hx => wtm_at "mem"))
  | fail)
local macro_rules | `(tactic| wtm_at "wr") => `(tactic| first
  | exact Or.inr (by assumption)
  | exact Or.inl (by wtm_at "mem")
  | fail)
local macro_rules | `(tactic| wtm_at "lv") => `(tactic| first
  | assumption
  | exact Live.nil
  | (refine' Live.cons ?hx ?hy; (case hx => wtm_at "hf"); (case hy => wtm_at "lv"))
  | fail)
local macro_rules | `(tactic| wtm_at "run") => `(tactic| first
  | assumption
  | (refine' Run.same ?hx ?hy; (case hy => assumption); (case hx => wtm_at "run"))
  | fail)
local macro_rules | `(tactic| wtm_at "sq") => `(tactic| first
  | assumption
  | (refine' Run.seq ?hx ?hy; (case hx => assumption); (case hy => assumption))
  | (refine' SqL.of ?hx; (case hx => wtm_at "hf"))
  | (refine' Same.seq ?hx ?hy; (case hx => assumption); (case hy => wtm_at "sq"))
  | (refine' Ext.seqL ?hx ?hz ?hy; (case hx => assumption); (case hy => wtm_at "sq"); (case hz => wtm_at "nin"))
  | fail)
local macro_rules | `(tactic| wtm_at "st") => `(tactic| first
  | assumption
  | (refine' SqT.of ?hx; (case hx => wtm_at "hf"))
  | fail)
local macro_rules | `(tactic| wtm_at "ix") => `(tactic| first
  | assumption
  | exact rfl
  | fail)
local macro_rules | `(tactic| wtm_at "sz") => `(tactic| first
  | wtm_at "rl"
  | with_reducible assumption
  | (rw [ik_len]; wtm_at "sz")
  | (rw [sk_len]; wtm_at "sz")
  | exact smallM (by assumption)
  | exact smallM (by omega)
  | exact smallM (by simp only [List.length_cons, List.length_nil, List.length_append, List.length_map]; omega)
  | fail)
local macro_rules | `(tactic| wtm_at "tx") => `(tactic| first
  | assumption
  | ((with_reducible refine' Tx.app ?hx ?hy); (case hx => wtm_at "tx"); (case hy => wtm_at "tx"))
  | ((with_reducible refine' Tx.cut ?hx); (case hx => wtm_at "tx"))
  | with_reducible exact Tx.nil
  | fail)
local macro_rules | `(tactic| wtm_at "k") => `(tactic| first
  | with_reducible refine k_seq ?_
  | with_reducible refine k_next ?_
  | with_reducible refine k_asg ?_
  | with_reducible refine k_ret ?_
  | with_reducible refine k_retN ?_
  | with_reducible refine k_asgS ?_
  | ((with_reducible refine' l_setL ?hr ?hx ?he ?h2 ?hw ?_); (case hr => wtm_at "run"); (case hx => wtm_at "hf"); (case he => exact rfl); (case h2 => exact rfl); (case hw => wtm_at "wr"); intro _ _ _ _)
  | with_reducible refine k_minD ?_
  | with_reducible refine k_drop ?_
  | with_reducible refine k_ifS ?_
  | ((with_reducible refine' k_var ?hx ?_); (case hx => exact rfl))
  | with_reducible refine k_c ?_
  | with_reducible refine k_negc ?_
  | with_reducible refine k_neg ?_
  | with_reducible refine l_neg ?_
  | with_reducible refine k_op ?_
  | with_reducible refine k_cb ?_
  | with_reducible refine k_nil ?_
  | with_reducible refine k_cons ?_
  | with_reducible refine k_test ?_
  | with_reducible refine k_B ?_
  | with_reducible refine k_not ?_
  | with_reducible refine k_and ?_
  | with_reducible refine k_or ?_
  | with_reducible refine k_notV ?_
  | with_reducible refine k_andV ?_
  | with_reducible refine k_orV ?_
  | with_reducible refine k_bl ?_
  | with_reducible refine k_add ?_
  | with_reducible refine k_sub ?_
  | ((with_reducible refine' k_mod ?hx ?_); (case hx => first | decide | omega))
  | ((with_reducible refine' k_div ?hx ?_); (case hx => first | exact ⟨by decide, by decide⟩ | exact ⟨by omega, by omega⟩))
  | ((with_reducible refine' k_mul ?hx ?_); (case hx => first | exact Or.inl ⟨by decide, by decide⟩ | exact Or.inr ⟨by decide, by decide⟩ | exact Or.inl ⟨by omega, by omega⟩))
  | with_reducible refine k_chain ?_
  | with_reducible refine k_p6 ?_
  | with_reducible refine k_p9 ?_
  | with_reducible refine k_p12 ?_
  | with_reducible refine k_p13 ?_
  | with_reducible refine k_p18 ?_
  | with_reducible refine k_p30 ?_
  | with_reducible refine k_lt ?_
  | with_reducible refine k_le ?_
  | with_reducible refine k_gt ?_
  | with_reducible refine k_ge ?_
  | with_reducible refine k_eq ?_
  | with_reducible refine k_ne ?_
  | with_reducible refine k_seqS ?_
  | with_reducible refine k_neS ?_
  | with_reducible refine k_neB ?_
  | with_reducible refine k_isN ?_
  | with_reducible refine k_noN ?_
  | with_reducible refine k_fld ?_
  | ((with_reducible refine' l_fld ?hx ?hy ?_); (case hx => wtm_at "hf"); (case hy => wtm_at "lk"))
  | with_reducible refine k_fldS ?_
  | ((with_reducible refine' l_fldS ?hr ?hx ?hz ?hy ?hw ?_); (case hr => wtm_at "run"); (case hx => wtm_at "hf"); (case hy => wtm_at "pt"); (case hz => wtm_at "lz"); (case hw => wtm_at "wr"); intro _ _ _ _)
  | ((with_reducible refine' l_new ?hr ?_); (case hr => wtm_at "run"); intro _ _ _ _ _ _ _ _)
  | with_reducible refine k_append ?_
  | ((with_reducible refine' l_tyL ?hx ?_); (case hx => wtm_at "hf"))
  | ((with_reducible refine' l_ins ?hx ?hy ?_); (case hx => wtm_at "hf"); (case hy => wtm_at "lm"))
  | with_reducible refine k_methS ?_
  | with_reducible refine k_methG ?_
  | with_reducible refine k_makeG ?_
  | with_reducible refine k_meth0 ?_
  | with_reducible refine k_callS ?_
  | with_reducible refine k_callE ?_
  | with_reducible refine k_dget ?_
  | with_reducible refine k_din ?_
  | with_reducible refine k_dnotin ?_
  | with_reducible refine k_dput ?_
  | with_reducible refine k_dpop ?_
  | with_reducible refine k_dget2 ?_
  | with_reducible refine k_tup ?_
  | with_reducible refine k_lst ?_
  | with_reducible refine k_dnew ?_
  | ((with_reducible refine' l_tup ?hx ?_); (case hx => simp only [List.length_cons, List.length_nil]; decide))
  | ((with_reducible refine' l_lst ?hx ?_); (case hx => simp only [List.length_cons, List.length_nil]; decide))
  | ((with_reducible refine' l_isD ?hx ?_); (case hx => wtm_at "hf"))
  | ((with_reducible refine' l_dinI ?hx ?_); (case hx => wtm_at "hf"))
  | ((with_reducible refine' l_dinS ?hx ?_); (case hx => wtm_at "hf"))
  | ((with_reducible refine' l_dnotinI ?hx ?_); (case hx => wtm_at "hf"))
  | ((with_reducible refine' l_dnotinS ?hx ?_); (case hx => wtm_at "hf"))
  | ((with_reducible refine' l_dputI ?hr ?hx ?hz ?hy ?hw ?_); (case hr => wtm_at "run"); (case hx => wtm_at "hf"); (case hy => wtm_at "pk"); (case hz => wtm_at "sz"); (case hw => wtm_at "wr"); intro _ _ _ _)
  | ((with_reducible refine' l_dputS ?hr ?hx ?hz ?hy ?hw ?_); (case hr => wtm_at "run"); (case hx => wtm_at "hf"); (case hy => wtm_at "pk"); (case hz => wtm_at "sz"); (case hw => wtm_at "wr"); intro _ _ _ _)
  | ((with_reducible refine' l_dpopI ?hr ?hx ?hz ?hy ?hw ?_); (case hr => wtm_at "run"); (case hx => wtm_at "hf"); (case hy => wtm_at "pk"); (case hz => wtm_at "vk"); (case hw => wtm_at "wr"); intro _ _ _ _)
  | ((with_reducible refine' l_dpopS ?hr ?hx ?hz ?hy ?hw ?_); (case hr => wtm_at "run"); (case hx => wtm_at "hf"); (case hy => wtm_at "pk"); (case hz => wtm_at "vk"); (case hw => wtm_at "wr"); intro _ _ _ _)
  | ((with_reducible refine' l_dgetI ?hx ?hz ?_); (case hx => wtm_at "hf"); (case hz => wtm_at "vk"))
  | ((with_reducible refine' l_dgetS ?hx ?hz ?_); (case hx => wtm_at "hf"); (case hz => wtm_at "vk"))
  | ((with_reducible refine' l_dgetIF ?hx ?hz ?_); (case hx => wtm_at "hf"); (case hz => wtm_at "vk"))
  | ((with_reducible refine' l_dgetSF ?hx ?hz ?_); (case hx => wtm_at "hf"); (case hz => wtm_at "vk"))
  | ((with_reducible refine' l_dgetZ ?hx ?hz ?_); (case hx => wtm_at "hf"); (case hz => wtm_at "vk"))
  | ((with_reducible refine' k_disp ?hr ?_); (case hr => wtm_at "run"); intro _ _ _ _ _ _ _ _)
  | with_reducible refine k_pcons ?_
  | with_reducible refine k_pnil ?_
  | ((with_reducible refine' l_disp ?hr ?hx ?hu ?hv ?hy ?hw ?_); (case hr => wtm_at "run"); (case hx => wtm_at "hf"); (case hu => exact rfl); (case hv => simp only [List.length_map, List.length_cons, List.length_nil]; decide); (case hy => wtm_at "rm"); (case hw => wtm_at "wr"); intro _ _ _ _)
  | ((with_reducible refine' l_append ?hr ?hx ?hz ?hw ?_); (case hr => wtm_at "run"); (case hx => wtm_at "hf"); (case hz => wtm_at "sz"); (case hw => wtm_at "wr"); intro _ _ _ _)
  | ((with_reducible refine' l_isEt ?hx ?_); (case hx => first | exact isD (ExcK.kit (by assumption) _ (by wtm_at "mem") _ (by wtm_at "mem")) | exact isC (ExcK.kit (by assumption) _ (by wtm_at "mem") _ (by wtm_at "mem")) (by decide)))
  | ((with_reducible refine' l_isEV ?hx ?_); (case hx => exact ExcK.kitV (by assumption) _ (by wtm_at "mem")))
  | ((with_reducible refine' l_isiI ?hx ?_); (case hx => first | rfl | assumption))
  | ((with_reducible refine' l_isiB ?hx ?_); (case hx => first | rfl | assumption))
  | with_reducible refine l_isiSS ?_
  | ((with_reducible refine' l_isiS ?hx ?_); (case hx => first | rfl | assumption))
  | ((with_reducible refine' l_isiL ?hx ?_); (case hx => wtm_at "hf"))
  | ((with_reducible refine' l_isiO ?hx ?hy ?hz ?_); (case hx => wtm_at "hf"); (case hy => assumption); (case hz => assumption))
  | ((with_reducible refine' l_isiT ?hx ?_); (case hx => wtm_at "hf"))
  | ((with_reducible refine' l_lenL ?hx ?_); (case hx => wtm_at "sq"))
  | ((with_reducible refine' l_lenT ?hx ?_); (case hx => wtm_at "st"))
  | ((with_reducible refine' l_lenDK ?hx ?_); (case hx => wtm_at "hf"))
  | ((with_reducible refine' l_ixL ?hx ?hy ?_); (case hx => wtm_at "sq"); (case hy => wtm_at "ix"))
  | ((with_reducible refine' l_ixT ?hx ?hy ?_); (case hx => wtm_at "st"); (case hy => wtm_at "ix"))
  | with_reducible refine k_m1 ?_
  | with_reducible refine l_strX ?_
  | with_reducible refine l_sw ?_
  | ((with_reducible refine' x_addS ?hx ?hy ?hz ?_); (case hx => wtm_at "tx"); (case hy => wtm_at "tx"); (case hz => decide))
  | ((with_reducible refine' x_slS ?hx ?hz ?_); (case hx => wtm_at "tx"); (case hz => decide))
  | ((with_reducible refine' x_lenX ?hx ?hz ?_); (case hx => wtm_at "tx"); (case hz => decide))
  | with_reducible refine l_max ?_
  | with_reducible refine l_min ?_
  | with_reducible refine l_abs ?_
  | with_reducible refine k_sl ?_
  | with_reducible refine k_part ?_
  | with_reducible refine l_part ?_
  | with_reducible refine k_nopart ?_
  | with_reducible refine k_yes ?_
  | ((with_reducible refine' l_slL ?hr ?hx ?_); (case hr => wtm_at "run"); (case hx => wtm_at "sq"); intro _ _ _ _ _ _ _ _)
  | with_reducible refine k_lcL ?_
  | with_reducible refine k_lcR ?_
  | with_reducible refine k_for ?_
  | with_reducible refine k_zip ?_
  | with_reducible refine k_rng1 ?_
  | with_reducible refine k_rng2 ?_
  | with_reducible refine k_rng3 ?_
  | with_reducible refine k_makeS ?_
  | ((with_reducible refine' l_make ?hr ?_); (case hr => wtm_at "run"); intro _ _ _ _ _ _ _ _ _)
  | with_reducible refine k_ntt ?_
  | with_reducible refine k_ntf ?_
  | with_reducible refine k_clear ?_
  | ((with_reducible refine' l_clear ?hr ?hx ?hw ?_); (case hr => wtm_at "run"); (case hx => wtm_at "hf"); (case hw => wtm_at "wr"); intro _ _ _ _)
  | with_reducible refine k_ift ?_
  | with_reducible refine k_iff ?_
  | with_reducible refine g_name ?_
  | with_reducible refine k_revL ?_
  | ((with_reducible refine' l_tupL ?hx ?_); (case hx => wtm_at "sq"))
  | with_reducible refine l_intB ?_
  | ((with_reducible refine' l_rev ?hx ?_); (case hx => wtm_at "sq"))
  | ((with_reducible refine' l_gT2 ?hn ?hx ?_); (case hn => exact rfl); (case hx => wtm_at "st"))
  | ((with_reducible refine' l_listL ?hx ?_); (case hx => wtm_at "sq"))
  | ((with_reducible refine' l_listT ?hx ?_); (case hx => wtm_at "st"))
  | fail)
/-! ### leases -/
structure LS where
  given : Int
  spans : List (Int × Int)
  ends : List (Int × Int)
def LS.new : LS := ⟨0, [], []⟩
def LS.grant (L : LS) (now ticks : Int) : LS := ⟨L.given + 1, aput L.spans (L.given + 1) ticks, aput L.ends (L.given + 1) (now + ticks)⟩
def LS.renew (L : LS) (lease at_ : Int) : LS := { L with ends := aput L.ends lease at_ }
def LS.drop (L : LS) (lease : Int) : LS := { L with spans := adrop L.spans lease, ends := adrop L.ends lease }
def LS.dueRaw (L : LS) (til : Int) : List (Int × Int) := (L.ends.filter fun p => decide (p.2 ≤ til)).map fun p => (p.2, p.1)
def LS.due (L : LS) (til : Int) : List (Int × Int) := sortP (L.dueRaw til)
structure LeasesAt (K : PySem.W.Frag) (H : Hp) (p ps pe : Addr) (L : LS) : Prop where
  ob : ∃ dx, H p = some (.ins (He.ga K "Leases") dx (fl_Leases (.int L.given) (.ref ps) (.ref pe)))
  sp : H ps = some (.dK (ik iv L.spans))
  en : H pe = some (.dK (ik iv L.ends))
  ne : ps ≠ pe
theorem LeasesAt.ext {K : PySem.W.Frag} {H H' : Hp} {p ps pe : Addr} {L : LS} {F : List Addr} (a : LeasesAt K H p ps pe L) (e : Ext F H H') (h1 : p ∉ F) (h2 : ps ∉ F) (h3 : pe ∉ F) : LeasesAt K H' p ps pe L :=
  ⟨let ⟨dx, h⟩ := a.ob; ⟨dx, e.keep _ _ h h1⟩, e.keep _ _ a.sp h2, e.keep _ _ a.en h3, a.ne⟩
def sp_Leases_init (K : PySem.W.Frag) : Sp := fun vs H Q _ => ∃ p dx, vs = [.ref p] ∧ H p = some (.ins (He.ga K "Leases") dx []) ∧
  ∀ H' ps pe, H ps = none → H pe = none → LeasesAt K H' p ps pe LS.new → Ext [p] H H' → Q .non H'
section
variable {P : Program} {w : World} {K : PySem.W.Frag} {mg : Str → Option Value} {base : Heap}
theorem sc_Leases_init : FnScope ["self"] ["self"] (defScope s_Leases_init) := ⟨rfl, rfl, rfl, by decide +kernel, rfl, by decide +kernel, by decide +kernel⟩
theorem ok_Leases_init (T : FX K mg) : FnOk P w K mg base (L2N.CX P w) 1 (He.ma K (He.ga K "Leases") "__init__") (fdAt K ("Leases", some "__init__")) ["self"] (sp_Leases_init K) := by
  refine FunD.ok T.F_Leases_init sc_Leases_init (fun vs H Q E h => ?_) (fun cdv A outer s H vs Q E hr h => ?_)
  · (repeat (obtain ⟨_, h⟩ := h)); subst_vars; rfl
  · have hu := hu_of hr
    have hu64 := hr.units
    refine ⟨_,
      (pss_cons
        (ps_fldC T.cl_Leases T.na_Leases_given (pv 0) pe_int)
      (pss_cons
        (ps_fldC T.cl_Leases T.na_Leases_spans (pv 0) pe_dnewK)
      (pss_one
        (ps_fldC T.cl_Leases T.na_Leases_ends (pv 0) pe_dnewK)))), ?_⟩
    obtain ⟨p, dx, rfl, hp, k⟩ := h
    have R0 : Run [p] H H := Run.start (by wtm_at "lv")
    repeat wtm_at "k"
    refine' k _ _ _ ?h1 ?h2 ⟨⟨dx, ?gA⟩, ?gB, ?gC, ?gD⟩ (Run.ext (by assumption))
    case gA => wtm_at "hf"
    case gB => wtm_at "hf"
    case gC => wtm_at "hf"
    case gD => wtm_at "ne"
    all_goals assumption

def sp_Leases_grant (K : PySem.W.Frag) : Sp := fun vs H Q E => ∃ p ps pe L now ticks, vs = [.ref p, .int now, .int ticks] ∧ LeasesAt K H p ps pe L ∧ L.spans.length ≤ 1000 ∧ L.ends.length ≤ 1000 ∧
  (1 ≤ ticks ∧ ticks ≤ 1000000 → ∀ H', LeasesAt K H' p ps pe (L.grant now ticks) → Ext [p, ps, pe] H H' → Q (.int (L.given + 1)) H') ∧
  (¬ (1 ≤ ticks ∧ ticks ≤ 1000000) → E (.ref (He.ga K "BadTicks")) none H)
theorem sc_Leases_grant : FnScope ["self", "now", "ticks"] ["self", "now", "ticks"] (defScope s_Leases_grant) := ⟨rfl, rfl, rfl, by decide +kernel, rfl, by decide +kernel, by decide +kernel⟩
theorem ok_Leases_grant (T : FX K mg) : FnOk P w K mg base (L2N.CX P w) 1 (He.ma K (He.ga K "Leases") "grant") (fdAt K ("Leases", some "grant")) ["self", "now", "ticks"] (sp_Leases_grant K) := by
  refine FunD.ok T.F_Leases_grant sc_Leases_grant (fun vs H Q E h => ?_) (fun cdv A outer s H vs Q E hr h => ?_)
  · (repeat (obtain ⟨_, h⟩ := h)); subst_vars; rfl
  · have hu := hu_of hr
    have hu64 := hr.units
    obtain ⟨tMT, hMT⟩ := T.i_MOST_TICKS
    refine ⟨_,
      (pss_cons
        (ps_if (PW.pt (pw_or (pt_cmpR oIlt (pv 2) pe_int (nomark _)) (pw_or1 (pt_cmpR oIgt (pv 2) (pe_globI rfl hMT) (nomark _)))))
          (pss_one
            (L2N.ps_raise rfl tkd (L2N.pmk_own PySem.F.excBase_ValueError T.x_BadTicks.1 T.g_BadTicks T.x_BadTicks.2.1 (raises_own T.x_BadTicks.2.2.1 T.x_BadTicks.2.2.2) rfl)))
          pss_nil)
      (pss_cons
        (ps_fldC T.cl_Leases T.na_Leases_given (pv 0) (pe_op oIadd (pe_fldC T.cl_Leases T.na_Leases_given (pv 0)) pe_int))
      (pss_cons
        (ps_dput hu (pe_fldC T.cl_Leases T.na_Leases_spans (pv 0)) (pe_fldC T.cl_Leases T.na_Leases_given (pv 0)) (pv 2) rfl)
      (pss_cons
        (ps_dput hu (pe_fldC T.cl_Leases T.na_Leases_ends (pv 0)) (pe_fldC T.cl_Leases T.na_Leases_given (pv 0)) (pe_op oIadd (pv 1) (pv 2)) rfl)
      (pss_one
        (ps_ret (pe_fldC T.cl_Leases T.na_Leases_given (pv 0)))))))), ?_⟩
    obtain ⟨p, ps, pe, L, now, ticks, rfl, ⟨⟨dx, hp⟩, hs, he, hne⟩, z1, z2, k1, k2⟩ := h
    have n1 : p ≠ ps := by wtm_at "ne"
    have n2 : p ≠ pe := by wtm_at "ne"
    have R0 : Run [p, ps, pe] H H := Run.start (by wtm_at "lv")
    repeat wtm_at "k"
    refine k_ifd (fun c => k_ift (k2 (by omega))) fun c1 => ?_
    repeat wtm_at "k"
    refine k_ifd (fun c => k2 (by omega)) fun c2 => ?_
    repeat wtm_at "k"
    refine k1 ⟨by omega, by omega⟩ _ ⟨⟨dx, ?gA⟩, ?gB, ?gC, hne⟩ (Run.ext (by assumption))
    case gA => wtm_at "hf"
    case gB => wtm_at "hf"
    case gC => wtm_at "hf"
def sp_Leases_need (K : PySem.W.Frag) : Sp := fun vs H Q E => ∃ p ps pe L lease, vs = [.ref p, .int lease] ∧ LeasesAt K H p ps pe L ∧
  ((∃ t, aget L.ends lease = some t) → Q .non H) ∧ (aget L.ends lease = none → E (.ref (He.ga K "NoLease")) none H)
theorem sc_Leases_need : FnScope ["self", "lease"] ["self", "lease"] (defScope s_Leases_need) := ⟨rfl, rfl, rfl, by decide +kernel, rfl, by decide +kernel, by decide +kernel⟩
theorem ok_Leases_need (T : FX K mg) : FnOk P w K mg base (L2N.CX P w) 1 (He.ma K (He.ga K "Leases") "need") (fdAt K ("Leases", some "need")) ["self", "lease"] (sp_Leases_need K) := by
  refine FunD.ok T.F_Leases_need sc_Leases_need (fun vs H Q E h => ?_) (fun cdv A outer s H vs Q E hr h => ?_)
  · (repeat (obtain ⟨_, h⟩ := h)); subst_vars; rfl
  · have hu := hu_of hr
    have hu64 := hr.units
    refine ⟨_,
      (pss_one
        (ps_if (pt_cmp (pc_dnotin hu (pv 1) (pe_fldC T.cl_Leases T.na_Leases_ends (pv 0))))
          (pss_one
            (L2N.ps_raise rfl tkd (L2N.pmk_own PySem.F.excBase_ValueError T.x_NoLease.1 T.g_NoLease T.x_NoLease.2.1 (raises_own T.x_NoLease.2.2.1 T.x_NoLease.2.2.2) rfl)))
          pss_nil)), ?_⟩
    obtain ⟨p, ps, pe, L, lease, rfl, ⟨⟨dx, hp⟩, hs, he, hne⟩, k1, k2⟩ := h
    repeat wtm_at "k"
    rw [valV_ik]
    cases c : aget L.ends lease with
    | none =>
      refine k_ift ?_
      exact k2 c
    | some t =>
      refine k_iff ?_
      repeat wtm_at "k"
      exact k1 ⟨t, c⟩
def sp_Leases_renew (K : PySem.W.Frag) : Sp := fun vs H Q E => ∃ p ps pe L now lease, vs = [.ref p, .int now, .int lease] ∧ LeasesAt K H p ps pe L ∧ L.spans.length ≤ 1000 ∧ L.ends.length ≤ 1000 ∧
  (∀ e, aget L.ends lease = some e → ∃ t, aget L.spans lease = some t ∧ ∀ H', LeasesAt K H' p ps pe (L.renew lease (now + t)) → Ext [p, ps, pe] H H' → Q .non H') ∧ (aget L.ends lease = none → E (.ref (He.ga K "NoLease")) none H)
theorem sc_Leases_renew : FnScope ["self", "now", "lease"] ["self", "now", "lease"] (defScope s_Leases_renew) := ⟨rfl, rfl, rfl, by decide +kernel, rfl, by decide +kernel, by decide +kernel⟩
theorem ok_Leases_renew (T : FX K mg) : FnOk P w K mg base (L2N.CX P w) 2 (He.ma K (He.ga K "Leases") "renew") (fdAt K ("Leases", some "renew")) ["self", "now", "lease"] (sp_Leases_renew K) := by
  refine FunD.ok T.F_Leases_renew sc_Leases_renew (fun vs H Q E h => ?_) (fun cdv A outer s H vs Q E hr h => ?_)
  · (repeat (obtain ⟨_, h⟩ := h)); subst_vars; rfl
  · have hu := hu_of hr
    have hu64 := hr.units
    refine ⟨_,
      (pss_cons
        (ps_expr (pe_methS (pv 0) T.cl_Leases T.me_Leases_need (ok_Leases_need T) (hr.mono (j := 1) (by decide)) T.b_Leases_need (fun σ => L2N.passAt tkd σ) (pa_cons (pv 2) pa_nil)))
      (pss_one
        (ps_dput hu (pe_fldC T.cl_Leases T.na_Leases_ends (pv 0)) (pv 2) (pe_op oIadd (pv 1) (pe_dget hu (pe_fldC T.cl_Leases T.na_Leases_spans (pv 0)) (pv 2) (fun _ _ => rfl))) rfl))), ?_⟩
    obtain ⟨p, ps, pe, L, now, lease, rfl, hL, z1, z2, k1, k2⟩ := h
    obtain ⟨⟨dx, hp⟩, hs, he, hne⟩ := id hL
    have n1 : p ≠ ps := by wtm_at "ne"
    have n2 : p ≠ pe := by wtm_at "ne"
    have R0 : Run [p, ps, pe] H H := Run.start (by wtm_at "lv")
    repeat wtm_at "k"
    refine ⟨p, ps, pe, L, lease, rfl, hL, fun ⟨e, ce⟩ => ?_, k2⟩
    obtain ⟨t, ct, k1⟩ := k1 e ce
    repeat wtm_at "k"
    refine k1 _ ⟨⟨dx, ?gA⟩, ?gB, ?gC, hne⟩ (Run.ext (by assumption))
    case gA => wtm_at "hf"
    case gB => wtm_at "hf"
    case gC => wtm_at "hf"
def sp_Leases_drop (K : PySem.W.Frag) : Sp := fun vs H Q E => ∃ p ps pe L lease, vs = [.ref p, .int lease] ∧ LeasesAt K H p ps pe L ∧
  (∀ e, aget L.ends lease = some e → ∃ t, aget L.spans lease = some t ∧ ∀ H', LeasesAt K H' p ps pe (L.drop lease) → Ext [p, ps, pe] H H' → Q .non H') ∧ (aget L.ends lease = none → E (.ref (He.ga K "NoLease")) none H)
theorem sc_Leases_drop : FnScope ["self", "lease"] ["self", "lease"] (defScope s_Leases_drop) := ⟨rfl, rfl, rfl, by decide +kernel, rfl, by decide +kernel, by decide +kernel⟩
theorem ok_Leases_drop (T : FX K mg) : FnOk P w K mg base (L2N.CX P w) 2 (He.ma K (He.ga K "Leases") "drop") (fdAt K ("Leases", some "drop")) ["self", "lease"] (sp_Leases_drop K) := by
  refine FunD.ok T.F_Leases_drop sc_Leases_drop (fun vs H Q E h => ?_) (fun cdv A outer s H vs Q E hr h => ?_)
  · (repeat (obtain ⟨_, h⟩ := h)); subst_vars; rfl
  · have hu := hu_of hr
    have hu64 := hr.units
    refine ⟨_,
      (pss_cons
        (ps_expr (pe_methS (pv 0) T.cl_Leases T.me_Leases_need (ok_Leases_need T) (hr.mono (j := 1) (by decide)) T.b_Leases_need (fun σ => L2N.passAt tkd σ) (pa_cons (pv 1) pa_nil)))
      (pss_cons
        (ps_expr (pe_dpop1 (pe_fldC T.cl_Leases T.na_Leases_ends (pv 0)) (pv 1) ⟨rfl, rfl, rfl, rfl⟩))
      (pss_one
        (ps_expr (pe_dpop1 (pe_fldC T.cl_Leases T.na_Leases_spans (pv 0)) (pv 1) ⟨rfl, rfl, rfl, rfl⟩))))), ?_⟩
    obtain ⟨p, ps, pe, L, lease, rfl, hL, k1, k2⟩ := h
    obtain ⟨⟨dx, hp⟩, hs, he, hne⟩ := id hL
    have n1 : p ≠ ps := by wtm_at "ne"
    have n2 : p ≠ pe := by wtm_at "ne"
    have R0 : Run [p, ps, pe] H H := Run.start (by wtm_at "lv")
    repeat wtm_at "k"
    refine ⟨p, ps, pe, L, lease, rfl, hL, fun ⟨e, ce⟩ => ?_, k2⟩
    obtain ⟨t, ct, k1⟩ := k1 e ce
    repeat wtm_at "k"
    refine k1 _ ⟨⟨dx, ?gA⟩, ?gB, ?gC, hne⟩ (Run.ext (by assumption))
    case gA => wtm_at "hf"
    case gB => wtm_at "hf"
    case gC => wtm_at "hf"

def sp_Leases_due (K : PySem.W.Frag) : Sp := fun vs H Q _ => ∃ p ps pe L til, vs = [.ref p, .int til] ∧ LeasesAt K H p ps pe L ∧ L.ends.length ≤ 1000 ∧ (L.ends.map (·.1)).Nodup ∧
  ∀ l H' ys, H l = none → Ext [] H H' → H' l = some (.lst ys) → Paired (IsP H') ys (L.due til) → Q (.ref l) H'
theorem sc_Leases_due : FnScope ["self", "until", "lease"] ["self", "until"] (defScope s_Leases_due) := ⟨rfl, rfl, rfl, by decide +kernel, rfl, by decide +kernel, by decide +kernel⟩
theorem ok_Leases_due (T : FX K mg) : FnOk P w K mg base (L2N.CX P w) 1 (He.ma K (He.ga K "Leases") "due") (fdAt K ("Leases", some "due")) ["self", "until"] (sp_Leases_due K) := by
  refine FunD.ok T.F_Leases_due sc_Leases_due (fun vs H Q E h => ?_) (fun cdv A outer s H vs Q E hr h => ?_)
  · (repeat (obtain ⟨_, h⟩ := h)); subst_vars; rfl
  · have hu := hu_of hr
    have hu64 := hr.units
    refine ⟨_,
      (pss_one
        (ps_ret (pe_callB cr_sortedPO (by rfl) T.f_sorted (by decide +kernel) (pa_cons (pe_lock (pe_lc (own := [("lease", 2)]) (g := gName 2) rfl sc_Leases_due.nd (pi_keys (pe_fldC T.cl_Leases T.na_Leases_ends (pv 0))) (blkOk_by (N := ["self", "until", "lease"]) (sc := defScope s_Leases_due) (by decide +kernel)) (fun _ _ _ _ _ => (pg_name (i := 2) sc_Leases_due.nd rfl (Or.inl rfl))) (fun _ _ _ _ _ => (pts_one (pt_cmpR oIle (pe_dget hu (pe_fldC T.cl_Leases T.na_Leases_ends (pv 0)) (pv 2) (fun _ _ => rfl)) (pv 1) (nomark _)))) (fun _ _ _ _ _ => (pe_tup (pa_cons (pe_dget hu (pe_fldC T.cl_Leases T.na_Leases_ends (pv 0)) (pv 2) (fun _ _ => rfl)) (pa_cons (pv 2) pa_nil)))))) pa_nil)))), ?_⟩
    obtain ⟨p, ps, pe, L, til, rfl, hL, z2, nd, k⟩ := h
    obtain ⟨⟨dx, hp⟩, hs, he, hne⟩ := id hL
    have n2 : p ≠ pe := by wtm_at "ne"
    have ze : (ik iv L.ends).length < sizeLine := by wtm_at "sz"
    repeat wtm_at "k"
    refine lc_keysI (j := 2) he ze (fun od R hR => ?_) (fun m acc H' => Paired (IsP H') acc ((m.filter fun q : Int × Int => decide (q.2 ≤ til)).map fun q : Int × Int => (q.2, q.1)))
      .nil (fun m acc H1 H2 t h => keepP t h) (fun i p1 od acc H1 R R0 el hf hk hl hP q1 q0 => ?_) (fun D H' acc nD e hD lD hP => ?_)
    · have a1 : upd H pe (.frz od (.dK (ik iv L.ends))) p = some _ := (upd_ne n2).trans hp
      repeat wtm_at "k"
      exact hR
    · have ge : aget L.ends p1.1 = some p1.2 := aget_of_mem nd (List.mem_of_getElem? el)
      have a1 := hk _ _ n2 hp
      have R1 : Run [] H1 H1 := Run.start Live.nil
      repeat wtm_at "k"
      refine k_ifd (fun c => ?_) fun c => ?_
      · repeat wtm_at "k"
        refine q1 _ _ (Run.ext (by assumption)) ?_
        rw [List.filter_append, List.map_append, List.filter_cons, if_pos (decide_eq_true c)]
        exact pmapP (keepP (Run.ext (by assumption)).tups hP) ⟨_, rfl, by wtm_at "hf"⟩
      · refine q0 _ (Ext.refl _ _) ?_
        rw [List.filter_append, List.map_append, List.filter_cons, if_neg (by simpa using c)]
        simpa using hP
    · have R1 : Run [] H' H' := Run.start Live.nil
      repeat wtm_at "k"
      refine l_sortedP R1 hD hP fun l H2 ys h1 h2 h3 r2 h4 s2 h5 => ?_
      exact k l H2 ys (e.free h1 (by simp)) (e.add r2.ext) h4 h5
end
end LW

set_option maxHeartbeats 4000000
namespace LW
open PySem PySem.Spec PyProof.Rows L2
local macro_rules | `(tactic| wtm_at "vk") => `(tactic| first
  | assumption
  | with_reducible exact rv_mf_given
  | with_reducible exact rv_mf_free
  | exact valV_sv (by assumption)
  | exact valV_iv (by assumption)
  | fail)
local macro_rules | `(tactic| wtm_at "pk") => `(tactic| first
  | with_reducible exact putK_iv
  | with_reducible exact dropK_ik
  | with_reducible exact dropK_sk
  | with_reducible exact rp_mf_given
  | with_reducible exact rp_mf_free
  | exact putK_sv
  | assumption
  | fail)
local macro_rules | `(tactic| wtm_at "rm") => `(tactic| first
  | with_reducible exact rm_mf
  | exact rfl
  | fail)
local macro_rules | `(tactic| wtm_at "rl") => `(tactic| first
  | with_reducible exact rl_mf
  | with_reducible assumption
  | fail)
local macro_rules | `(tactic| wtm_at "lk") => `(tactic| with_reducible first
  | exact lk_Ear_behind
  | exact lk_Ear_begun
  | exact lk_Ear_rows
  | exact lk_Line_room
  | exact lk_Line_watcher
  | exact lk_Line_ear
  | exact lk_Leases_given
  | exact lk_Leases_spans
  | exact lk_Leases_ends
  | exact lk_Log_rows
  | exact lk_Log_gone
  | exact lk_Watcher_prefix
  | exact lk_Watcher_had
  | exact lk_Watcher_told
  | exact lk_Room_now
  | exact lk_Room_leases
  | exact lk_Room_log
  | exact lk_Room_kept
  | exact lk_Room_watchers
  | exact lk_Room_met
  | fail)
local macro_rules | `(tactic| wtm_at "lm") => `(tactic| with_reducible first
  | exact lm_Ear_hear
  | exact lm_Ear_heard
  | exact lm_Ear_state
  | exact lm_Line_turn
  | exact lm_Leases_grant
  | exact lm_Leases_need
  | exact lm_Leases_renew
  | exact lm_Leases_drop
  | exact lm_Leases_due
  | exact lm_Log_note
  | exact lm_Log_last
  | exact lm_Log_first
  | exact lm_Log_wanted
  | exact lm_Log_forget
  | exact lm_Room_grant
  | exact lm_Room_renew
  | exact lm_Room_drop
  | exact lm_Room_wait
  | exact lm_Room_free
  | exact lm_Room_put
  | exact lm_Room_cut
  | exact lm_Room_value
  | exact lm_Room_holder
  | exact lm_Room_pairs
  | exact lm_Room_last
  | exact lm_Room_first
  | exact lm_Room_watch
  | exact lm_Room_need
  | exact lm_Room_pull
  | exact lm_Room_confirm
  | exact lm_Room_broken
  | exact lm_Room_leave
  | exact lm_Room_trim
  | fail)
local macro_rules | `(tactic| wtm_at "pt") => `(tactic| with_reducible first
  | exact pt_Ear_behind
  | exact pt_Ear_begun
  | exact pt_Ear_rows
  | exact pi_Ear_0
  | exact pi_Ear_1
  | exact pi_Ear_2
  | exact pt_Line_room
  | exact pt_Line_watcher
  | exact pt_Line_ear
  | exact pi_Line_0
  | exact pi_Line_1
  | exact pi_Line_2
  | exact pt_Leases_given
  | exact pt_Leases_spans
  | exact pt_Leases_ends
  | exact pi_Leases_0
  | exact pi_Leases_1
  | exact pi_Leases_2
  | exact pt_Log_rows
  | exact pt_Log_gone
  | exact pi_Log_0
  | exact pi_Log_1
  | exact pt_Watcher_prefix
  | exact pt_Watcher_had
  | exact pt_Watcher_told
  | exact pi_Watcher_0
  | exact pi_Watcher_1
  | exact pi_Watcher_2
  | exact pt_Room_now
  | exact pt_Room_leases
  | exact pt_Room_log
  | exact pt_Room_kept
  | exact pt_Room_watchers
  | exact pt_Room_met
  | exact pi_Room_0
  | exact pi_Room_1
  | exact pi_Room_2
  | exact pi_Room_3
  | exact pi_Room_4
  | exact pi_Room_5
  | fail)
local macro_rules | `(tactic| wtm_at "lz") => `(tactic| with_reducible first
  | exact lz_Ear
  | exact lz_Line
  | exact lz_Leases
  | exact lz_Log
  | exact lz_Watcher
  | exact lz_Room
  | (simp only [List.length_cons, List.length_nil]; decide)
  | exact (by decide)
  | fail)
local macro_rules | `(tactic| wtm_at "hf") => `(tactic| first
  | assumption
  | (refine' hf_s ?hs ?hx; (case hs => assumption); (case hx => wtm_at "hf"))
  | (refine' hf_n ?hs ?hx ?ne; (case hs => assumption); (case hx => wtm_at "hf"); (case ne => wtm_at "ne"))
  | (refine' hf_e ?hs ?hx ?hy; (case hs => assumption); (case hx => wtm_at "hf"); (case hy => wtm_at "nin"))
  | fail)
local macro_rules | `(tactic| wtm_at "ne") => `(tactic| first
  | assumption
  | (apply Ne.symm; assumption)
  | (refine' ne_of_none ?hx ?hy; (case hy => assumption); (case hx => wtm_at "hf"))
  | (refine' (ne_of_none ?hx ?hy).symm; (case hy => assumption); (case hx => wtm_at "hf"))
  | (refine' ne_of ?hx ?hy ?hz; (case hx => assumption); (case hy => assumption); (case hz => intro z; cases z))
  | fail)
local macro_rules | `(tactic| wtm_at "nin") => `(tactic| first
  | assumption
  | exact notin_nil
  | (refine' notin_cons ?hx ?hy; (case hx => wtm_at "ne"); (case hy => wtm_at "nin"))
  | fail)
local macro_rules | `(tactic| wtm_at "mem") => `(tactic| first
  | assumption
  | exact List.mem_cons_self
  | (refine' List.mem_cons_of_mem _ ?hx; (case hx => wtm_at "mem"))
  | fail)
local macro_rules | `(tactic| wtm_at "wr") => `(tactic| first
  | exact Or.inr (by assumption)
  | exact Or.inl (by wtm_at "mem")
  | fail)
local macro_rules | `(tactic| wtm_at "lv") => `(tactic| first
  | assumption
  | exact Live.nil
  | (refine' Live.cons ?hx ?hy; (case hx => wtm_at "hf"); (case hy => wtm_at "lv"))
  | fail)
local macro_rules | `(tactic| wtm_at "run") => `(tactic| first
  | assumption
  | (refine' Run.same ?hx ?hy; (case hy => assumption); (case hx => wtm_at "run"))
  | fail)
local macro_rules | `(tactic| wtm_at "sq") => `(tactic| first
  | assumption
  | (refine' Run.seq ?hx ?hy; (case hx => assumption); (case hy => assumption))
  | (refine' SqL.of ?hx; (case hx => wtm_at "hf"))
  | (refine' Same.seq ?hx ?hy; (case hx => assumption); (case hy => wtm_at "sq"))
  | (refine' Ext.seqL ?hx ?hz ?hy; (case hx => assumption); (case hy => wtm_at "sq"); (case hz => wtm_at "nin"))
  | fail)
local macro_rules | `(tactic| wtm_at "st") => `(tactic| first
  | assumption
  | (refine' SqT.of ?hx; (case hx => wtm_at "hf"))
  | fail)
local macro_rules | `(tactic| wtm_at "ix") => `(tactic| first
  | assumption
  | exact rfl
  | fail)
local macro_rules | `(tactic| wtm_at "sz") => `(tactic| first
  | wtm_at "rl"
  | with_reducible assumption
  | (rw [ik_len]; wtm_at "sz")
  | (rw [sk_len]; wtm_at "sz")
  | exact smallM (by assumption)
  | exact smallM (by omega)
  | exact smallM (by simp only [List.length_cons, List.length_nil, List.length_append, List.length_map]; omega)
  | fail)
local macro_rules | `(tactic| wtm_at "tx") => `(tactic| first
  | assumption
  | ((with_reducible refine' Tx.app ?hx ?hy); (case hx => wtm_at "tx"); (case hy => wtm_at "tx"))
  | ((with_reducible refine' Tx.cut ?hx); (case hx => wtm_at "tx"))
  | with_reducible exact Tx.nil
  | fail)
local macro_rules | `(tactic| wtm_at "k") => `(tactic| first
  | with_reducible refine k_seq ?_
  | with_reducible refine k_next ?_
  | with_reducible refine k_asg ?_
  | with_reducible refine k_ret ?_
  | with_reducible refine k_retN ?_
  | with_reducible refine k_asgS ?_
  | ((with_reducible refine' l_setL ?hr ?hx ?he ?h2 ?hw ?_); (case hr => wtm_at "run"); (case hx => wtm_at "hf"); (case he => exact rfl); (case h2 => exact rfl); (case hw => wtm_at "wr"); intro _ _ _ _)
  | with_reducible refine k_minD ?_
  | with_reducible refine k_drop ?_
  | with_reducible refine k_ifS ?_
  | ((with_reducible refine' k_var ?hx ?_); (case hx => exact rfl))
  | with_reducible refine k_c ?_
  | with_reducible refine k_negc ?_
  | with_reducible refine k_neg ?_
  | with_reducible refine l_neg ?_
  | with_reducible refine k_op ?_
  | with_reducible refine k_cb ?_
  | with_reducible refine k_nil ?_
  | with_reducible refine k_cons ?_
  | with_reducible refine k_test ?_
  | with_reducible refine k_B ?_
  | with_reducible refine k_not ?_
  | with_reducible refine k_and ?_
  | with_reducible refine k_or ?_
  | with_reducible refine k_notV ?_
  | with_reducible refine k_andV ?_
  | with_reducible refine k_orV ?_
  | with_reducible refine k_bl ?_
  | with_reducible refine k_add ?_
  | with_reducible refine k_sub ?_
  | ((with_reducible refine' k_mod ?hx ?_); (case hx => first | decide | omega))
  | ((with_reducible refine' k_div ?hx ?_); (case hx => first | exact ⟨by decide, by decide⟩ | exact ⟨by omega, by omega⟩))
  | ((with_reducible refine' k_mul ?hx ?_); (case hx => first | exact Or.inl ⟨by decide, by decide⟩ | exact Or.inr ⟨by decide, by decide⟩ | exact Or.inl ⟨by omega, by omega⟩))
  | with_reducible refine k_chain ?_
  | with_reducible refine k_p6 ?_
  | with_reducible refine k_p9 ?_
  | with_reducible refine k_p12 ?_
  | with_reducible refine k_p13 ?_
  | with_reducible refine k_p18 ?_
  | with_reducible refine k_p30 ?_
  | with_reducible refine k_lt ?_
  | with_reducible refine k_le ?_
  | with_reducible refine k_gt ?_
  | with_reducible refine k_ge ?_
  | with_reducible refine k_eq ?_
  | with_reducible refine k_ne ?_
  | with_reducible refine k_seqS ?_
  | with_reducible refine k_neS ?_
  | with_reducible refine k_neB ?_
  | with_reducible refine k_isN ?_
  | with_reducible refine k_noN ?_
  | with_reducible refine k_fld ?_
  | ((with_reducible refine' l_fld ?hx ?hy ?_); (case hx => wtm_at "hf"); (case hy => wtm_at "lk"))
  | with_reducible refine k_fldS ?_
  | ((with_reducible refine' l_fldS ?hr ?hx ?hz ?hy ?hw ?_); (case hr => wtm_at "run"); (case hx => wtm_at "hf"); (case hy => wtm_at "pt"); (case hz => wtm_at "lz"); (case hw => wtm_at "wr"); intro _ _ _ _)
  | ((with_reducible refine' l_new ?hr ?_); (case hr => wtm_at "run"); intro _ _ _ _ _ _ _ _)
  | with_reducible refine k_append ?_
  | ((with_reducible refine' l_tyL ?hx ?_); (case hx => wtm_at "hf"))
  | ((with_reducible refine' l_ins ?hx ?hy ?_); (case hx => wtm_at "hf"); (case hy => wtm_at "lm"))
  | with_reducible refine k_methS ?_
  | with_reducible refine k_methG ?_
  | with_reducible refine k_makeG ?_
  | with_reducible refine k_meth0 ?_
  | with_reducible refine k_callS ?_
  | with_reducible refine k_callE ?_
  | with_reducible refine k_dget ?_
  | with_reducible refine k_din ?_
  | with_reducible refine k_dnotin ?_
  | with_reducible refine k_dput ?_
  | with_reducible refine k_dpop ?_
  | with_reducible refine k_dget2 ?_
  | with_reducible refine k_tup ?_
  | with_reducible refine k_lst ?_
  | with_reducible refine k_dnew ?_
  | ((with_reducible refine' l_tup ?hx ?_); (case hx => simp only [List.length_cons, List.length_nil]; decide))
  | ((with_reducible refine' l_lst ?hx ?_); (case hx => simp only [List.length_cons, List.length_nil]; decide))
  | ((with_reducible refine' l_isD ?hx ?_); (case hx => wtm_at "hf"))
  | ((with_reducible refine' l_dinI ?hx ?_); (case hx => wtm_at "hf"))
  | ((with_reducible refine' l_dinS ?hx ?_); (case hx => wtm_at "hf"))
  | ((with_reducible refine' l_dnotinI ?hx ?_); (case hx => wtm_at "hf"))
  | ((with_reducible refine' l_dnotinS ?hx ?_); (case hx => wtm_at "hf"))
  | ((with_reducible refine' l_dputI ?hr ?hx ?hz ?hy ?hw ?_); (case hr => wtm_at "run"); (case hx => wtm_at "hf"); (case hy => wtm_at "pk"); (case hz => wtm_at "sz"); (case hw => wtm_at "wr"); intro _ _ _ _)
  | ((with_reducible refine' l_dputS ?hr ?hx ?hz ?hy ?hw ?_); (case hr => wtm_at "run"); (case hx => wtm_at "hf"); (case hy => wtm_at "pk"); (case hz => wtm_at "sz"); (case hw => wtm_at "wr"); intro _ _ _ _)
  | ((with_reducible refine' l_dpopI ?hr ?hx ?hz ?hy ?hw ?_); (case hr => wtm_at "run"); (case hx => wtm_at "hf"); (case hy => wtm_at "pk"); (case hz => wtm_at "vk"); (case hw => wtm_at "wr"); intro _ _ _ _)
  | ((with_reducible refine' l_dpopS ?hr ?hx ?hz ?hy ?hw ?_); (case hr => wtm_at "run"); (case hx => wtm_at "hf"); (case hy => wtm_at "pk"); (case hz => wtm_at "vk"); (case hw => wtm_at "wr"); intro _ _ _ _)
  | ((with_reducible refine' l_dgetI ?hx ?hz ?_); (case hx => wtm_at "hf"); (case hz => wtm_at "vk"))
  | ((with_reducible refine' l_dgetS ?hx ?hz ?_); (case hx => wtm_at "hf"); (case hz => wtm_at "vk"))
  | ((with_reducible refine' l_dgetIF ?hx ?hz ?_); (case hx => wtm_at "hf"); (case hz => wtm_at "vk"))
  | ((with_reducible refine' l_dgetSF ?hx ?hz ?_); (case hx => wtm_at "hf"); (case hz => wtm_at "vk"))
  | ((with_reducible refine' l_dgetZ ?hx ?hz ?_); (case hx => wtm_at "hf"); (case hz => wtm_at "vk"))
  | ((with_reducible refine' k_disp ?hr ?_); (case hr => wtm_at "run"); intro _ _ _ _ _ _ _ _)
  | with_reducible refine k_pcons ?_
  | with_reducible refine k_pnil ?_
  | ((with_reducible refine' l_disp ?hr ?hx ?hu ?hv ?hy ?hw ?_); (case hr => wtm_at "run"); (case hx => wtm_at "hf"); (case hu => exact rfl); (case hv => simp only [List.length_map, List.length_cons, List.length_nil]; decide); (case hy => wtm_at "rm"); (case hw => wtm_at "wr"); intro _ _ _ _)
  | ((with_reducible refine' l_append ?hr ?hx ?hz ?hw ?_); (case hr => wtm_at "run"); (case hx => wtm_at "hf"); (case hz => wtm_at "sz"); (case hw => wtm_at "wr"); intro _ _ _ _)
  | ((with_reducible refine' l_isEt ?hx ?_); (case hx => first | exact isD (ExcK.kit (by assumption) _ (by wtm_at "mem") _ (by wtm_at "mem")) | exact isC (ExcK.kit (by assumption) _ (by wtm_at "mem") _ (by wtm_at "mem")) (by decide)))
  | ((with_reducible refine' l_isEV ?hx ?_); (case hx => exact ExcK.kitV (by assumption) _ (by wtm_at "mem")))
  | ((with_reducible refine' l_isiI ?hx ?_); (case hx => first | rfl | assumption))
  | ((with_reducible refine' l_isiB ?hx ?_); (case hx => first | rfl | assumption))
  | with_reducible refine l_isiSS ?_
  | ((with_reducible refine' l_isiS ?hx ?_); (case hx => first | rfl | assumption))
  | ((with_reducible refine' l_isiL ?hx ?_); (case hx => wtm_at "hf"))
  | ((with_reducible refine' l_isiO ?hx ?hy ?hz ?_); (case hx => wtm_at "hf"); (case hy => assumption); (case hz => assumption))
  | ((with_reducible refine' l_isiT ?hx ?_); (case hx => wtm_at "hf"))
  | ((with_reducible refine' l_lenL ?hx ?_); (case hx => wtm_at "sq"))
  | ((with_reducible refine' l_lenT ?hx ?_); (case hx => wtm_at "st"))
  | ((with_reducible refine' l_lenDK ?hx ?_); (case hx => wtm_at "hf"))
  | ((with_reducible refine' l_ixL ?hx ?hy ?_); (case hx => wtm_at "sq"); (case hy => wtm_at "ix"))
  | ((with_reducible refine' l_ixT ?hx ?hy ?_); (case hx => wtm_at "st"); (case hy => wtm_at "ix"))
  | with_reducible refine k_m1 ?_
  | with_reducible refine l_strX ?_
  | with_reducible refine l_sw ?_
  | ((with_reducible refine' x_addS ?hx ?hy ?hz ?_); (case hx => wtm_at "tx"); (case hy => wtm_at "tx"); (case hz => decide))
  | ((with_reducible refine' x_slS ?hx ?hz ?_); (case hx => wtm_at "tx"); (case hz => decide))
  | ((with_reducible refine' x_lenX ?hx ?hz ?_); (case hx => wtm_at "tx"); (case hz => decide))
  | with_reducible refine l_max ?_
  | with_reducible refine l_min ?_
  | with_reducible refine l_abs ?_
  | with_reducible refine k_sl ?_
  | with_reducible refine k_part ?_
  | with_reducible refine l_part ?_
  | with_reducible refine k_nopart ?_
  | with_reducible refine k_yes ?_
  | ((with_reducible refine' l_slL ?hr ?hx ?_); (case hr => wtm_at "run"); (case hx => wtm_at "sq"); intro _ _ _ _ _ _ _ _)
  | with_reducible refine k_lcL ?_
  | with_reducible refine k_lcR ?_
  | with_reducible refine k_for ?_
  | with_reducible refine k_zip ?_
  | with_reducible refine k_rng1 ?_
  | with_reducible refine k_rng2 ?_
  | with_reducible refine k_rng3 ?_
  | with_reducible refine k_makeS ?_
  | ((with_reducible refine' l_make ?hr ?_); (case hr => wtm_at "run"); intro _ _ _ _ _ _ _ _ _)
  | with_reducible refine k_ntt ?_
  | with_reducible refine k_ntf ?_
  | with_reducible refine k_clear ?_
  | ((with_reducible refine' l_clear ?hr ?hx ?hw ?_); (case hr => wtm_at "run"); (case hx => wtm_at "hf"); (case hw => wtm_at "wr"); intro _ _ _ _)
  | with_reducible refine k_ift ?_
  | with_reducible refine k_iff ?_
  | with_reducible refine g_name ?_
  | with_reducible refine k_revL ?_
  | ((with_reducible refine' l_tupL ?hx ?_); (case hx => wtm_at "sq"))
  | with_reducible refine l_intB ?_
  | ((with_reducible refine' l_rev ?hx ?_); (case hx => wtm_at "sq"))
  | ((with_reducible refine' l_gT2 ?hn ?hx ?_); (case hn => exact rfl); (case hx => wtm_at "st"))
  | ((with_reducible refine' l_listL ?hx ?_); (case hx => wtm_at "sq"))
  | ((with_reducible refine' l_listT ?hx ?_); (case hx => wtm_at "st"))
  | fail)
/-! ### the log -/
structure LogS where
  rows : List Row
  gone : Int
def LogS.last (L : LogS) : Int := L.gone + L.rows.length
def LogS.note (L : LogS) (r : Row) : LogS := ⟨L.rows ++ [r], L.gone⟩
def LogS.wantedAll (L : LogS) (pre : Str) (behind : Int) : List Row := L.rows.filter fun r => decide (behind < r.n) && begins r.k pre
def LogS.wanted (L : LogS) (pre : Str) (behind most : Int) : List Row := (L.wantedAll pre behind).take most.toNat
def LogS.kept (L : LogS) (upto : Int) : List Row := L.rows.filter fun r => decide (upto < r.n)
def LogS.many (L : LogS) (upto : Int) : Int := L.rows.length - (L.kept upto).length
def LogS.forget (L : LogS) (upto : Int) : LogS := ⟨L.kept upto, L.gone + L.many upto⟩
def LogAt (K : PySem.W.Frag) (H : Hp) (p : Addr) (F : List Addr) (L : LogS) : Prop :=
  ∃ pr dx ys, F = [p, pr] ∧ p ≠ pr ∧ H p = some (.ins (He.ga K "Log") dx (fl_Log (.ref pr) (.int L.gone))) ∧ H pr = some (.lst ys) ∧ Paired (IsR H) ys L.rows
theorem LogAt.ext {K : PySem.W.Frag} {H H' : Hp} {p : Addr} {F G : List Addr} {L : LogS} (a : LogAt K H p F L) (e : Ext G H H') (h : Apart F G) : LogAt K H' p F L := by
  obtain ⟨pr, dx, ys, rfl, n, h1, h2, h3⟩ := a
  exact ⟨pr, dx, ys, rfl, n, e.keep _ _ h1 (h _ (by simp)), e.keep _ _ h2 (h _ (by simp)), keepT e.tups h3⟩
theorem LogAt.live {K : PySem.W.Frag} {H : Hp} {p : Addr} {F : List Addr} {L : LogS} (a : LogAt K H p F L) : Live H F := by
  obtain ⟨pr, dx, ys, rfl, n, h1, h2, h3⟩ := a
  exact Live.cons h1 (Live.cons h2 Live.nil)
def sp_Log_init (K : PySem.W.Frag) : Sp := fun vs H Q _ => ∃ p dx, vs = [.ref p] ∧ H p = some (.ins (He.ga K "Log") dx []) ∧
  ∀ H' F, LogAt K H' p F ⟨[], 0⟩ → Grow H [p] F → Ext [p] H H' → Q .non H'
section
variable {P : Program} {w : World} {K : PySem.W.Frag} {mg : Str → Option Value} {base : Heap}
theorem sc_Log_init : FnScope ["self"] ["self"] (defScope s_Log_init) := ⟨rfl, rfl, rfl, by decide +kernel, rfl, by decide +kernel, by decide +kernel⟩
theorem ok_Log_init (T : FX K mg) : FnOk P w K mg base (L2N.CX P w) 1 (He.ma K (He.ga K "Log") "__init__") (fdAt K ("Log", some "__init__")) ["self"] (sp_Log_init K) := by
  refine FunD.ok T.F_Log_init sc_Log_init (fun vs H Q E h => ?_) (fun cdv A outer s H vs Q E hr h => ?_)
  · (repeat (obtain ⟨_, h⟩ := h)); subst_vars; rfl
  · have hu := hu_of hr
    have hu64 := hr.units
    refine ⟨_,
      (pss_cons
        (ps_fldC T.cl_Log T.na_Log_rows (pv 0) (pe_lst pa_nil))
      (pss_one
        (ps_fldC T.cl_Log T.na_Log_gone (pv 0) pe_int))), ?_⟩
    obtain ⟨p, dx, rfl, hp, k⟩ := h
    have R0 : Run [p] H H := Run.start (by wtm_at "lv")
    repeat wtm_at "k"
    rename_i pr H1 f1 f2 f3 r1 h1 s1 H2 r2 h2 n2 H3 r3 h3 n3
    refine k _ _ ⟨pr, dx, [], rfl, ?g1, ?g2, ?g3, .nil⟩ ?g4 (Run.ext (by assumption))
    case g1 => wtm_at "ne"
    case g2 => wtm_at "hf"
    case g3 => wtm_at "hf"
    case g4 => intro c hc; simp only [List.mem_cons, List.not_mem_nil, or_false] at hc; rcases hc with rfl | rfl <;> simp [*]
def sp_Log_last (K : PySem.W.Frag) : Sp := fun vs H Q _ => ∃ p F L, vs = [.ref p] ∧ LogAt K H p F L ∧ Q (.int L.last) H
theorem sc_Log_last : FnScope ["self"] ["self"] (defScope s_Log_last) := ⟨rfl, rfl, rfl, by decide +kernel, rfl, by decide +kernel, by decide +kernel⟩
theorem ok_Log_last (T : FX K mg) : FnOk P w K mg base (L2N.CX P w) 1 (He.ma K (He.ga K "Log") "last") (fdAt K ("Log", some "last")) ["self"] (sp_Log_last K) := by
  refine FunD.ok T.F_Log_last sc_Log_last (fun vs H Q E h => ?_) (fun cdv A outer s H vs Q E hr h => ?_)
  · (repeat (obtain ⟨_, h⟩ := h)); subst_vars; rfl
  · have hu := hu_of hr
    have hu64 := hr.units
    refine ⟨_,
      (pss_one
        (ps_ret (pe_op oIadd (pe_fldC T.cl_Log T.na_Log_gone (pv 0)) (pe_callB oLen (by rfl) T.f_len PySem.boot_len (pa_cons (pe_fldC T.cl_Log T.na_Log_rows (pv 0)) pa_nil))))), ?_⟩
    obtain ⟨p, F, L, rfl, ⟨pr, dx, ys, rfl, n, h1, h2, h3⟩, k⟩ := h
    have el : (ys.length : Int) = L.rows.length := by rw [Paired.length h3]
    repeat wtm_at "k"
    rw [el]
    exact k
def sp_Log_first (K : PySem.W.Frag) : Sp := fun vs H Q _ => ∃ p F L, vs = [.ref p] ∧ LogAt K H p F L ∧ Q (.int (L.gone + 1)) H
theorem sc_Log_first : FnScope ["self"] ["self"] (defScope s_Log_first) := ⟨rfl, rfl, rfl, by decide +kernel, rfl, by decide +kernel, by decide +kernel⟩
theorem ok_Log_first (T : FX K mg) : FnOk P w K mg base (L2N.CX P w) 1 (He.ma K (He.ga K "Log") "first") (fdAt K ("Log", some "first")) ["self"] (sp_Log_first K) := by
  refine FunD.ok T.F_Log_first sc_Log_first (fun vs H Q E h => ?_) (fun cdv A outer s H vs Q E hr h => ?_)
  · (repeat (obtain ⟨_, h⟩ := h)); subst_vars; rfl
  · have hu := hu_of hr
    have hu64 := hr.units
    refine ⟨_,
      (pss_one
        (ps_ret (pe_op oIadd (pe_fldC T.cl_Log T.na_Log_gone (pv 0)) pe_int))), ?_⟩
    obtain ⟨p, F, L, rfl, ⟨pr, dx, ys, rfl, n, h1, h2, h3⟩, k⟩ := h
    repeat wtm_at "k"
    exact k
def sp_Log_note (K : PySem.W.Frag) : Sp := fun vs H Q _ => ∃ p F L t w k v, ∃ (ow : Tx 1000 w) (ok : Tx 1000 k) (ov : Tx 1000 v), vs = [.ref p, .int t, .str w, .str k, .str v] ∧ LogAt K H p F L ∧ L.rows.length ≤ 900000 ∧
  ∀ H', LogAt K H' p F (L.note ⟨L.last + 1, t, w, k, v, ow, ok, ov⟩) → Ext F H H' → Q (.int (L.last + 1)) H'
theorem sc_Log_note : FnScope ["self", "tick", "word", "key", "value", "number"] ["self", "tick", "word", "key", "value"] (defScope s_Log_note) := ⟨rfl, rfl, rfl, by decide +kernel, rfl, by decide +kernel, by decide +kernel⟩
theorem ok_Log_note (T : FX K mg) : FnOk P w K mg base (L2N.CX P w) 2 (He.ma K (He.ga K "Log") "note") (fdAt K ("Log", some "note")) ["self", "tick", "word", "key", "value"] (sp_Log_note K) := by
  refine FunD.ok T.F_Log_note sc_Log_note (fun vs H Q E h => ?_) (fun cdv A outer s H vs Q E hr h => ?_)
  · (repeat (obtain ⟨_, h⟩ := h)); subst_vars; rfl
  · have hu := hu_of hr
    have hu64 := hr.units
    refine ⟨_,
      (pss_cons
        (ps_set (i := 5) sc_Log_note.nd rfl (Or.inl rfl) (pe_op oIadd (pe_meth0S (pv 0) T.cl_Log T.me_Log_last (ok_Log_last T) (hr.mono (j := 1) (by decide)) T.b_Log_last (fun σ => L2N.passAt tkd σ)) pe_int))
      (pss_cons
        (ps_expr (pe_bm PySem.F.plainAttrs_list PySem.F.slot_list_append PySem.F.type_list_append mt_append (pe_fldC T.cl_Log T.na_Log_rows (pv 0)) (pa_cons (pe_tup (pa_cons (pv 5) (pa_cons (pv 1) (pa_cons (pv 2) (pa_cons (pv 3) (pa_cons (pv 4) pa_nil)))))) pa_nil)))
      (pss_one
        (ps_ret (pv 5))))), ?_⟩
    obtain ⟨p, F, L, t, w, key, v, ow, ok, ov, rfl, hL, z, k⟩ := h
    obtain ⟨pr, dx, ys, rfl, n, h1, h2, h3⟩ := id hL
    have el : ys.length = L.rows.length := Paired.length h3
    have zy : ys.length ≤ 900000 := by omega
    have R0 : Run [p, pr] H H := Run.start (by wtm_at "lv")
    repeat wtm_at "k"
    refine ⟨p, _, L, rfl, hL, ?_⟩
    repeat wtm_at "k"
    rename_i t1 H1 f1 f2 f3 r1 g1 s1 H2 r2 g2 n2
    refine k _ ⟨pr, dx, _, rfl, n, ?g1, g2, ?g3⟩ (Run.ext (by assumption))
    case g1 => wtm_at "hf"
    case g3 =>
      have tk := (Run.ext (F := [p, pr]) (H0 := H) (H := H2) (by assumption)).tups
      exact snocT (keepT tk h3) ⟨t1, rfl, by wtm_at "hf"⟩
def sp_Log_wanted (K : PySem.W.Frag) : Sp := fun vs H Q _ => ∃ p F L pre behind most, vs = [.ref p, .str pre, .int behind, .int most] ∧ LogAt K H p F L ∧ L.rows.length ≤ 900000 ∧
  ∀ l H' ys, H l = none → Ext [] H H' → H' l = some (.lst ys) → Paired (IsR H') ys (L.wanted pre behind most) → Q (.ref l) H'
theorem sc_Log_wanted : FnScope ["self", "prefix", "behind", "most", "found", "row"] ["self", "prefix", "behind", "most"] (defScope s_Log_wanted) := ⟨rfl, rfl, rfl, by decide +kernel, rfl, by decide +kernel, by decide +kernel⟩
theorem ok_Log_wanted (T : FX K mg) : FnOk P w K mg base (L2N.CX P w) 1 (He.ma K (He.ga K "Log") "wanted") (fdAt K ("Log", some "wanted")) ["self", "prefix", "behind", "most"] (sp_Log_wanted K) := by
  refine FunD.ok T.F_Log_wanted sc_Log_wanted (fun vs H Q E h => ?_) (fun cdv A outer s H vs Q E hr h => ?_)
  · (repeat (obtain ⟨_, h⟩ := h)); subst_vars; rfl
  · have hu := hu_of hr
    have hu64 := hr.units
    refine ⟨_,
      (pss_cons
        (ps_set (i := 4) sc_Log_wanted.nd rfl (Or.inl rfl) (pe_lst pa_nil))
      (pss_cons
        (ps_for pod rfl (pi_list (pe_fldC T.cl_Log T.na_Log_rows (pv 0))) (pg_name (i := 5) sc_Log_wanted.nd rfl (Or.inl rfl))
          (pss_one
            (ps_if (PW.pt (pw_and (pt_cmpR oIgt (pe_ix ix_tup (pv 5) pe_int (fun _ _ => rfl)) (pv 2) (nomark _)) (pw_and (pt_val (pe_m1 PySem.F.slot_str_startswith PySem.F.type_str_startswith oSW (pe_ix ix_tup (pv 5) pe_int (fun _ _ => rfl)) (pv 1))) (pw_and1 (pt_cmpR oIlt (pe_callB oLen (by rfl) T.f_len PySem.boot_len (pa_cons (pv 4) pa_nil)) (pv 3) (nomark _))))))
              (pss_one
                (ps_expr (pe_bm PySem.F.plainAttrs_list PySem.F.slot_list_append PySem.F.type_list_append mt_append (pv 4) (pa_cons (pv 5) pa_nil))))
              pss_nil)))
      (pss_one
        (ps_ret (pv 4))))), ?_⟩
    obtain ⟨p, F, L, pre, behind, most, rfl, hL, z, k⟩ := h
    obtain ⟨pr, dx, ys, rfl, n, h1, h2, h3⟩ := id hL
    have R0 : Run [] H H := Run.start Live.nil
    repeat wtm_at "k"
    rename_i l H1 f1 f2 f3 r1 g1 s1
    refine l_for (xs := ys) (SqL.of (by wtm_at "hf")) (fun i σ' H' => ∃ x5 acc, σ' = [some (.ref p), some (.str pre), some (.int behind), some (.int most), some (.ref l), x5] ∧ Run [] H H' ∧ H' l = some (.lst acc) ∧
      Paired (IsR H') acc (((L.rows.take i).filter fun r => decide (behind < r.n) && begins r.k pre).take most.toNat)) ?h0 ?hl ?hs ?hd
    case h0 => exact ⟨_, _, rfl, by assumption, by wtm_at "hf", by simpa using Paired.nil⟩
    case hl => exact fun i σ' H' _ ⟨_, _, _, r, _, _⟩ => SqL.of (r.ext.keep _ _ h2 (by simp))
    case hs =>
      intro i x σ' H' ex ⟨x5, acc, es, rr, ha, hp⟩
      subst es
      obtain ⟨r, er, t, rfl, ht⟩ := getT h3 ex
      have ht' : H' t = some (.tup (fR r)) := rr.ext.tups _ _ ht
      have hacc : acc.length ≤ 900000 := by
        have := Paired.length hp
        rw [List.length_take] at this
        have := List.length_filter_le (fun r => decide (behind < r.n) && begins r.k pre) (L.rows.take i)
        have := List.length_take_le' i L.rows
        omega
      have lp := Paired.length hp
      have stay : (decide (behind < r.n) && begins r.k pre) = false → ∃ x5 acc, ([some (.ref p), some (.str pre), some (.int behind), some (.int most), some (.ref l), some (.ref t)] : St) = [some (.ref p), some (.str pre), some (.int behind), some (.int most), some (.ref l), x5] ∧ Run [] H H' ∧ H' l = some (.lst acc) ∧
          Paired (IsR H') acc (((L.rows.take (i + 1)).filter fun r => decide (behind < r.n) && begins r.k pre).take most.toNat) := fun z => by
        refine ⟨_, acc, rfl, rr, ha, ?_⟩
        rw [filter_take_snoc er, if_neg (by rw [z]; exact Bool.false_ne_true), List.append_nil]
        exact hp
      repeat wtm_at "k"
      refine k_ifd (fun c1 => ?_) fun c1 => ?_
      · repeat wtm_at "k"
        refine k_if (fun c2 => ?_) fun c2 => ?_
        · repeat wtm_at "k"
          have full : (decide (behind < r.n) && begins r.k pre) = true := by rw [decide_eq_true c1, c2]; rfl
          refine k_ifd (fun c3 => ?_) fun c3 => ?_
          · repeat wtm_at "k"
            rename_i H2 r2 h2' n2
            refine ⟨_, _, rfl, by assumption, h2', ?_⟩
            rw [filter_take_snoc er, if_pos full, take_snoc_lt (by omega)]
            exact snocT (keepT (Run.tk n2 ha) hp) ⟨t, rfl, by wtm_at "hf"⟩
          · refine k_next ⟨_, _, rfl, rr, ha, ?_⟩
            rw [filter_take_snoc er, if_pos full, take_snoc_ge (by omega)]
            exact hp
        · repeat wtm_at "k"
          exact stay (by rw [c2, Bool.and_false])
      · repeat wtm_at "k"
        exact stay (by rw [decide_eq_false c1]; rfl)
    case hd =>
      rintro σ' H' ⟨x5, acc, rfl, rr, ha, hp⟩
      repeat wtm_at "k"
      refine k l H' acc f1 rr.ext ha ?_
      have e : L.rows.take ys.length = L.rows := by rw [Paired.length h3, List.take_length]
      rw [e] at hp
      exact hp
def sp_Log_forget (K : PySem.W.Frag) : Sp := fun vs H Q _ => ∃ p F L upto, vs = [.ref p, .int upto] ∧ LogAt K H p F L ∧ L.rows.length ≤ 900000 ∧
  ∀ H' F', LogAt K H' p F' (L.forget upto) → Grow H F F' → Ext F H H' → Q (.int (L.many upto)) H'
theorem sc_Log_forget : FnScope ["self", "upto", "kept", "many", "row"] ["self", "upto"] (defScope s_Log_forget) := ⟨rfl, rfl, rfl, by decide +kernel, rfl, by decide +kernel, by decide +kernel⟩
theorem ok_Log_forget (T : FX K mg) : FnOk P w K mg base (L2N.CX P w) 1 (He.ma K (He.ga K "Log") "forget") (fdAt K ("Log", some "forget")) ["self", "upto"] (sp_Log_forget K) := by
  refine FunD.ok T.F_Log_forget sc_Log_forget (fun vs H Q E h => ?_) (fun cdv A outer s H vs Q E hr h => ?_)
  · (repeat (obtain ⟨_, h⟩ := h)); subst_vars; rfl
  · have hu := hu_of hr
    have hu64 := hr.units
    refine ⟨_,
      (pss_cons
        (ps_setLc (i := 2) (own := [("row", 4)]) (g := gName 4) rfl sc_Log_forget.nd rfl rfl (sw_true rfl rfl rfl (by decide +kernel)) (pi_list (pe_fldC T.cl_Log T.na_Log_rows (pv 0))) (blkOk_by (N := ["self", "upto", "kept", "many", "row"]) (sc := defScope s_Log_forget) (by decide +kernel)) (fun _ _ _ _ _ => (pg_name (i := 4) sc_Log_forget.nd rfl (Or.inl rfl))) (fun _ _ _ _ _ => (pts_one (pt_cmpR oIgt (pe_ix (ix_tupK (K := K) rfl) (pv 4) pe_int (fun _ _ => rfl)) (pv 1) (nomark _)))) (fun _ _ _ _ _ => (pv 4)))
      (pss_cons
        (ps_set (i := 3) sc_Log_forget.nd rfl (Or.inl rfl) (pe_op oIsub (pe_callB oLen (by rfl) T.f_len PySem.boot_len (pa_cons (pe_fldC T.cl_Log T.na_Log_rows (pv 0)) pa_nil)) (pe_callB oLen (by rfl) T.f_len PySem.boot_len (pa_cons (pv 2) pa_nil))))
      (pss_cons
        (ps_fldC T.cl_Log T.na_Log_rows (pv 0) (pv 2))
      (pss_cons
        (ps_fldC T.cl_Log T.na_Log_gone (pv 0) (pe_op oIadd (pe_fldC T.cl_Log T.na_Log_gone (pv 0)) (pv 3)))
      (pss_one
        (ps_ret (pv 3))))))), ?_⟩
    obtain ⟨p, F, L, upto, rfl, hL, z, k⟩ := h
    obtain ⟨pr, dx, ys, rfl, n, h1, h2, h3⟩ := id hL
    have el : ys.length = L.rows.length := Paired.length h3
    have R0 : Run [p, pr] H H := Run.start (by wtm_at "lv")
    repeat wtm_at "k"
    refine l_lcL (j := 4) (xs := ys) (SqL.of h2) (by wtm_at "sz") (fun i acc H' => Paired (IsR H') acc ((L.rows.take i).filter fun r => decide (upto < r.n))) .nil (fun i acc H1 H2 t h => keepT t h) (fun i x acc H1 R R0 ex e hl hP q1 q0 => ?_) (fun D H1 acc nD e hD lD hP => ?_)
    · obtain ⟨r, er, t, rfl, ht⟩ := getT h3 ex
      have ht' : H1 t = some (.tup (fR r)) := e.tups _ _ ht
      repeat wtm_at "k"
      refine k_ifd (fun c => ?_) fun c => ?_
      · repeat wtm_at "k"
        refine q1 _ _ (Ext.refl _ _) ?_
        rw [filter_take_snoc er, if_pos (decide_eq_true c)]
        exact snocT hP ⟨t, rfl, ht'⟩
      · refine q0 _ (Ext.refl _ _) ?_
        rw [filter_take_snoc er, if_neg (by simpa using c), List.append_nil]
        exact hP
    · have e2 : L.rows.take ys.length = L.rows := by rw [el, List.take_length]
      rw [e2] at hP
      have R1 : Run [p, pr] H H1 := R0.same e
      have b1 := e.keep _ _ h1 (by simp)
      have b2 := e.keep _ _ h2 (by simp)
      have nDp : p ≠ D := ne_of_none h1 nD
      have lk : acc.length = (L.kept upto).length := Paired.length hP
      repeat wtm_at "k"
      rename_i H2 r2 g2 n2 H3 r3 g3 n3
      have em : (ys.length : Int) - acc.length = L.many upto := by unfold LogS.many; rw [el, lk]
      rw [em] at g3 ⊢
      refine k H3 [p, D] ⟨D, dx, acc, rfl, nDp, g3, ?g1, ?g2⟩ ?g4 (Run.ext (by assumption))
      case g1 => wtm_at "hf"
      case g2 => exact keepT (fun a xs h => by wtm_at "hf") hP
      case g4 => intro c hc; simp only [List.mem_cons, List.not_mem_nil, or_false] at hc; rcases hc with rfl | rfl <;> simp [*]
end
end LW

set_option maxHeartbeats 4000000
namespace LW
open PySem PySem.Spec PyProof.Rows L2
local macro_rules | `(tactic| wtm_at "vk") => `(tactic| first
  | assumption
  | with_reducible exact rv_mf_given
  | with_reducible exact rv_mf_free
  | exact valV_sv (by assumption)
  | exact valV_iv (by assumption)
  | fail)
local macro_rules | `(tactic| wtm_at "pk") => `(tactic| first
  | with_reducible exact putK_iv
  | with_reducible exact dropK_ik
  | with_reducible exact dropK_sk
  | with_reducible exact rp_mf_given
  | with_reducible exact rp_mf_free
  | exact putK_sv
  | assumption
  | fail)
local macro_rules | `(tactic| wtm_at "rm") => `(tactic| first
  | with_reducible exact rm_mf
  | exact rfl
  | fail)
local macro_rules | `(tactic| wtm_at "rl") => `(tactic| first
  | with_reducible exact rl_mf
  | with_reducible assumption
  | fail)
local macro_rules | `(tactic| wtm_at "lk") => `(tactic| with_reducible first
  | exact lk_Ear_behind
  | exact lk_Ear_begun
  | exact lk_Ear_rows
  | exact lk_Line_room
  | exact lk_Line_watcher
  | exact lk_Line_ear
  | exact lk_Leases_given
  | exact lk_Leases_spans
  | exact lk_Leases_ends
  | exact lk_Log_rows
  | exact lk_Log_gone
  | exact lk_Watcher_prefix
  | exact lk_Watcher_had
  | exact lk_Watcher_told
  | exact lk_Room_now
  | exact lk_Room_leases
  | exact lk_Room_log
  | exact lk_Room_kept
  | exact lk_Room_watchers
  | exact lk_Room_met
  | fail)
local macro_rules | `(tactic| wtm_at "lm") => `(tactic| with_reducible first
  | exact lm_Ear_hear
  | exact lm_Ear_heard
  | exact lm_Ear_state
  | exact lm_Line_turn
  | exact lm_Leases_grant
  | exact lm_Leases_need
  | exact lm_Leases_renew
  | exact lm_Leases_drop
  | exact lm_Leases_due
  | exact lm_Log_note
  | exact lm_Log_last
  | exact lm_Log_first
  | exact lm_Log_wanted
  | exact lm_Log_forget
  | exact lm_Room_grant
  | exact lm_Room_renew
  | exact lm_Room_drop
  | exact lm_Room_wait
  | exact lm_Room_free
  | exact lm_Room_put
  | exact lm_Room_cut
  | exact lm_Room_value
  | exact lm_Room_holder
  | exact lm_Room_pairs
  | exact lm_Room_last
  | exact lm_Room_first
  | exact lm_Room_watch
  | exact lm_Room_need
  | exact lm_Room_pull
  | exact lm_Room_confirm
  | exact lm_Room_broken
  | exact lm_Room_leave
  | exact lm_Room_trim
  | fail)
local macro_rules | `(tactic| wtm_at "pt") => `(tactic| with_reducible first
  | exact pt_Ear_behind
  | exact pt_Ear_begun
  | exact pt_Ear_rows
  | exact pi_Ear_0
  | exact pi_Ear_1
  | exact pi_Ear_2
  | exact pt_Line_room
  | exact pt_Line_watcher
  | exact pt_Line_ear
  | exact pi_Line_0
  | exact pi_Line_1
  | exact pi_Line_2
  | exact pt_Leases_given
  | exact pt_Leases_spans
  | exact pt_Leases_ends
  | exact pi_Leases_0
  | exact pi_Leases_1
  | exact pi_Leases_2
  | exact pt_Log_rows
  | exact pt_Log_gone
  | exact pi_Log_0
  | exact pi_Log_1
  | exact pt_Watcher_prefix
  | exact pt_Watcher_had
  | exact pt_Watcher_told
  | exact pi_Watcher_0
  | exact pi_Watcher_1
  | exact pi_Watcher_2
  | exact pt_Room_now
  | exact pt_Room_leases
  | exact pt_Room_log
  | exact pt_Room_kept
  | exact pt_Room_watchers
  | exact pt_Room_met
  | exact pi_Room_0
  | exact pi_Room_1
  | exact pi_Room_2
  | exact pi_Room_3
  | exact pi_Room_4
  | exact pi_Room_5
  | fail)
local macro_rules | `(tactic| wtm_at "lz") => `(tactic| with_reducible first
  | exact lz_Ear
  | exact lz_Line
  | exact lz_Leases
  | exact lz_Log
  | exact lz_Watcher
  | exact lz_Room
  | (simp only [List.length_cons, List.length_nil]; decide)
  | exact (by decide)
  | fail)
local macro_rules | `(tactic| wtm_at "hf") => `(tactic| first
  | assumption
  | (refine' hf_s ?hs ?hx; (case hs => assumption); (case hx => wtm_at "hf"))
  | (refine' hf_n ?hs ?hx ?ne; (case hs => assumption); (case hx => wtm_at "hf"); (case ne => wtm_at "ne"))
  | (refine' hf_e ?hs ?hx ?hy; (case hs => assumption); (case hx => wtm_at "hf"); (case hy => wtm_at "nin"))
  | fail)
local macro_rules | `(tactic| wtm_at "ne") => `(tactic| first
  | assumption
  | (apply Ne.symm; assumption)
  | (refine' ne_of_none ?hx ?hy; (case hy => assumption); (case hx => wtm_at "hf"))
  | (refine' (ne_of_none ?hx ?hy).symm; (case hy => assumption); (case hx => wtm_at "hf"))
  | (refine' ne_of ?hx ?hy ?hz; (case hx => assumption); (case hy => assumption); (case hz => intro z; cases z))
  | fail)
local macro_rules | `(tactic| wtm_at "nin") => `(tactic| first
  | assumption
  | exact notin_nil
  | (refine' notin_cons ?hx ?hy; (case hx => wtm_at "ne"); (case hy => wtm_at "nin"))
  | fail)
local macro_rules | `(tactic| wtm_at "mem") => `(tactic| first
  | assumption
  | exact List.mem_cons_self
  | (refine' List.mem_cons_of_mem _ ?hx; (case hx => wtm_at "mem"))
  | fail)
local macro_rules | `(tactic| wtm_at "wr") => `(tactic| first
  | exact Or.inr (by assumption)
  | exact Or.inl (by wtm_at "mem")
  | fail)
local macro_rules | `(tactic| wtm_at "lv") => `(tactic| first
  | assumption
  | exact Live.nil
  | (refine' Live.cons ?hx ?hy; (case hx => wtm_at "hf"); (case hy => wtm_at "lv"))
  | fail)
local macro_rules | `(tactic| wtm_at "run") => `(tactic| first
  | assumption
  | (refine' Run.same ?hx ?hy; (case hy => assumption); (case hx => wtm_at "run"))
  | fail)
local macro_rules | `(tactic| wtm_at "sq") => `(tactic| first
  | assumption
  | (refine' Run.seq ?hx ?hy; (case hx => assumption); (case hy => assumption))
  | (refine' SqL.of ?hx; (case hx => wtm_at "hf"))
  | (refine' Same.seq ?hx ?hy; (case hx => assumption); (case hy => wtm_at "sq"))
  | (refine' Ext.seqL ?hx ?hz ?hy; (case hx => assumption); (case hy => wtm_at "sq"); (case hz => wtm_at "nin"))
  | fail)
local macro_rules | `(tactic| wtm_at "st") => `(tactic| first
  | assumption
  | (refine' SqT.of ?hx; (case hx => wtm_at "hf"))
  | fail)
local macro_rules | `(tactic| wtm_at "ix") => `(tactic| first
  | assumption
  | exact rfl
  | fail)
local macro_rules | `(tactic| wtm_at "sz") => `(tactic| first
  | wtm_at "rl"
  | with_reducible assumption
  | (rw [ik_len]; wtm_at "sz")
  | (rw [sk_len]; wtm_at "sz")
  | exact smallM (by assumption)
  | exact smallM (by omega)
  | exact smallM (by simp only [List.length_cons, List.length_nil, List.length_append, List.length_map]; omega)
  | fail)
local macro_rules | `(tactic| wtm_at "tx") => `(tactic| first
  | assumption
  | ((with_reducible refine' Tx.app ?hx ?hy); (case hx => wtm_at "tx"); (case hy => wtm_at "tx"))
  | ((with_reducible refine' Tx.cut ?hx); (case hx => wtm_at "tx"))
  | with_reducible exact Tx.nil
  | fail)
local macro_rules | `(tactic| wtm_at "k") => `(tactic| first
  | with_reducible refine k_seq ?_
  | with_reducible refine k_next ?_
  | with_reducible refine k_asg ?_
  | with_reducible refine k_ret ?_
  | with_reducible refine k_retN ?_
  | with_reducible refine k_asgS ?_
  | ((with_reducible refine' l_setL ?hr ?hx ?he ?h2 ?hw ?_); (case hr => wtm_at "run"); (case hx => wtm_at "hf"); (case he => exact rfl); (case h2 => exact rfl); (case hw => wtm_at "wr"); intro _ _ _ _)
  | with_reducible refine k_minD ?_
  | with_reducible refine k_drop ?_
  | with_reducible refine k_ifS ?_
  | ((with_reducible refine' k_var ?hx ?_); (case hx => exact rfl))
  | with_reducible refine k_c ?_
  | with_reducible refine k_negc ?_
  | with_reducible refine k_neg ?_
  | with_reducible refine l_neg ?_
  | with_reducible refine k_op ?_
  | with_reducible refine k_cb ?_
  | with_reducible refine k_nil ?_
  | with_reducible refine k_cons ?_
  | with_reducible refine k_test ?_
  | with_reducible refine k_B ?_
  | with_reducible refine k_not ?_
  | with_reducible refine k_and ?_
  | with_reducible refine k_or ?_
  | with_reducible refine k_notV ?_
  | with_reducible refine k_andV ?_
  | with_reducible refine k_orV ?_
  | with_reducible refine k_bl ?_
  | with_reducible refine k_add ?_
  | with_reducible refine k_sub ?_
  | ((with_reducible refine' k_mod ?hx ?_); (case hx => first | decide | omega))
  | ((with_reducible refine' k_div ?hx ?_); (case hx => first | exact ⟨by decide, by decide⟩ | exact ⟨by omega, by omega⟩))
  | ((with_reducible refine' k_mul ?hx ?_); (case hx => first | exact Or.inl ⟨by decide, by decide⟩ | exact Or.inr ⟨by decide, by decide⟩ | exact Or.inl ⟨by omega, by omega⟩))
  | with_reducible refine k_chain ?_
  | with_reducible refine k_p6 ?_
  | with_reducible refine k_p9 ?_
  | with_reducible refine k_p12 ?_
  | with_reducible refine k_p13 ?_
  | with_reducible refine k_p18 ?_
  | with_reducible refine k_p30 ?_
  | with_reducible refine k_lt ?_
  | with_reducible refine k_le ?_
  | with_reducible refine k_gt ?_
  | with_reducible refine k_ge ?_
  | with_reducible refine k_eq ?_
  | with_reducible refine k_ne ?_
  | with_reducible refine k_seqS ?_
  | with_reducible refine k_neS ?_
  | with_reducible refine k_neB ?_
  | with_reducible refine k_isN ?_
  | with_reducible refine k_noN ?_
  | with_reducible refine k_fld ?_
  | ((with_reducible refine' l_fld ?hx ?hy ?_); (case hx => wtm_at "hf"); (case hy => wtm_at "lk"))
  | with_reducible refine k_fldS ?_
  | ((with_reducible refine' l_fldS ?hr ?hx ?hz ?hy ?hw ?_); (case hr => wtm_at "run"); (case hx => wtm_at "hf"); (case hy => wtm_at "pt"); (case hz => wtm_at "lz"); (case hw => wtm_at "wr"); intro _ _ _ _)
  | ((with_reducible refine' l_new ?hr ?_); (case hr => wtm_at "run"); intro _ _ _ _ _ _ _ _)
  | with_reducible refine k_append ?_
  | ((with_reducible refine' l_tyL ?hx ?_); (case hx => wtm_at "hf"))
  | ((with_reducible refine' l_ins ?hx ?hy ?_); (case hx => wtm_at "hf"); (case hy => wtm_at "lm"))
  | with_reducible refine k_methS ?_
  | with_reducible refine k_methG ?_
  | with_reducible refine k_makeG ?_
  | with_reducible refine k_meth0 ?_
  | with_reducible refine k_callS ?_
  | with_reducible refine k_callE ?_
  | with_reducible refine k_dget ?_
  | with_reducible refine k_din ?_
  | with_reducible refine k_dnotin ?_
  | with_reducible refine k_dput ?_
  | with_reducible refine k_dpop ?_
  | with_reducible refine k_dget2 ?_
  | with_reducible refine k_tup ?_
  | with_reducible refine k_lst ?_
  | with_reducible refine k_dnew ?_
  | ((with_reducible refine' l_tup ?hx ?_); (case hx => simp only [List.length_cons, List.length_nil]; decide))
  | ((with_reducible refine' l_lst ?hx ?_); (case hx => simp only [List.length_cons, List.length_nil]; decide))
  | ((with_reducible refine' l_isD ?hx ?_); (case hx => wtm_at "hf"))
  | ((with_reducible refine' l_dinI ?hx ?_); (case hx => wtm_at "hf"))
  | ((with_reducible refine' l_dinS ?hx ?_); (case hx => wtm_at "hf"))
  | ((with_reducible refine' l_dnotinI ?hx ?_); (case hx => wtm_at "hf"))
  | ((with_reducible refine' l_dnotinS ?hx ?_); (case hx => wtm_at "hf"))
  | ((with_reducible refine' l_dputI ?hr ?hx ?hz ?hy ?hw ?_); (case hr => wtm_at "run"); (case hx => wtm_at "hf"); (case hy => wtm_at "pk"); (case hz => wtm_at "sz"); (case hw => wtm_at "wr"); intro _ _ _ _)
  | ((with_reducible refine' l_dputS ?hr ?hx ?hz ?hy ?hw ?_); (case hr => wtm_at "run"); (case hx => wtm_at "hf"); (case hy => wtm_at "pk"); (case hz => wtm_at "sz"); (case hw => wtm_at "wr"); intro _ _ _ _)
  | ((with_reducible refine' l_dpopI ?hr ?hx ?hz ?hy ?hw ?_); (case hr => wtm_at "run"); (case hx => wtm_at "hf"); (case hy => wtm_at "pk"); (case hz => wtm_at "vk"); (case hw => wtm_at "wr"); intro _ _ _ _)
  | ((with_reducible refine' l_dpopS ?hr ?hx ?hz ?hy ?hw ?_); (case hr => wtm_at "run"); (case hx => wtm_at "hf"); (case hy => wtm_at "pk"); (case hz => wtm_at "vk"); (case hw => wtm_at "wr"); intro _ _ _ _)
  | ((with_reducible refine' l_dgetI ?hx ?hz ?_); (case hx => wtm_at "hf"); (case hz => wtm_at "vk"))
  | ((with_reducible refine' l_dgetS ?hx ?hz ?_); (case hx => wtm_at "hf"); (case hz => wtm_at "vk"))
  | ((with_reducible refine' l_dgetIF ?hx ?hz ?_); (case hx => wtm_at "hf"); (case hz => wtm_at "vk"))
  | ((with_reducible refine' l_dgetSF ?hx ?hz ?_); (case hx => wtm_at "hf"); (case hz => wtm_at "vk"))
  | ((with_reducible refine' l_dgetZ ?hx ?hz ?_); (case hx => wtm_at "hf"); (case hz => wtm_at "vk"))
  | ((with_reducible refine' k_disp ?hr ?_); (case hr => wtm_at "run"); intro _ _ _ _ _ _ _ _)
  | with_reducible refine k_pcons ?_
  | with_reducible refine k_pnil ?_
  | ((with_reducible refine' l_disp ?hr ?hx ?hu ?hv ?hy ?hw ?_); (case hr => wtm_at "run"); (case hx => wtm_at "hf"); (case hu => exact rfl); (case hv => simp only [List.length_map, List.length_cons, List.length_nil]; decide); (case hy => wtm_at "rm"); (case hw => wtm_at "wr"); intro _ _ _ _)
  | ((with_reducible refine' l_append ?hr ?hx ?hz ?hw ?_); (case hr => wtm_at "run"); (case hx => wtm_at "hf"); (case hz => wtm_at "sz"); (case hw => wtm_at "wr"); intro _ _ _ _)
  | ((with_reducible refine' l_isEt ?hx ?_); (case hx => first | exact isD (ExcK.kit (by assumption) _ (by wtm_at "mem") _ (by wtm_at "mem")) | exact isC (ExcK.kit (by assumption) _ (by wtm_at "mem") _ (by wtm_at "mem")) (by decide)))
  | ((with_reducible refine' l_isEV ?hx ?_); (case hx => exact ExcK.kitV (by assumption) _ (by wtm_at "mem")))
  | ((with_reducible refine' l_isiI ?hx ?_); (case hx => first | rfl | assumption))
  | ((with_reducible refine' l_isiB ?hx ?_); (case hx => first | rfl | assumption))
  | with_reducible refine l_isiSS ?_
  | ((with_reducible refine' l_isiS ?hx ?_); (case hx => first | rfl | assumption))
  | ((with_reducible refine' l_isiL ?hx ?_); (case hx => wtm_at "hf"))
  | ((with_reducible refine' l_isiO ?hx ?hy ?hz ?_); (case hx => wtm_at "hf"); (case hy => assumption); (case hz => assumption))
  | ((with_reducible refine' l_isiT ?hx ?_); (case hx => wtm_at "hf"))
  | ((with_reducible refine' l_lenL ?hx ?_); (case hx => wtm_at "sq"))
  | ((with_reducible refine' l_lenT ?hx ?_); (case hx => wtm_at "st"))
  | ((with_reducible refine' l_lenDK ?hx ?_); (case hx => wtm_at "hf"))
  | ((with_reducible refine' l_ixL ?hx ?hy ?_); (case hx => wtm_at "sq"); (case hy => wtm_at "ix"))
  | ((with_reducible refine' l_ixT ?hx ?hy ?_); (case hx => wtm_at "st"); (case hy => wtm_at "ix"))
  | with_reducible refine k_m1 ?_
  | with_reducible refine l_strX ?_
  | with_reducible refine l_sw ?_
  | ((with_reducible refine' x_addS ?hx ?hy ?hz ?_); (case hx => wtm_at "tx"); (case hy => wtm_at "tx"); (case hz => decide))
  | ((with_reducible refine' x_slS ?hx ?hz ?_); (case hx => wtm_at "tx"); (case hz => decide))
  | ((with_reducible refine' x_lenX ?hx ?hz ?_); (case hx => wtm_at "tx"); (case hz => decide))
  | with_reducible refine l_max ?_
  | with_reducible refine l_min ?_
  | with_reducible refine l_abs ?_
  | with_reducible refine k_sl ?_
  | with_reducible refine k_part ?_
  | with_reducible refine l_part ?_
  | with_reducible refine k_nopart ?_
  | with_reducible refine k_yes ?_
  | ((with_reducible refine' l_slL ?hr ?hx ?_); (case hr => wtm_at "run"); (case hx => wtm_at "sq"); intro _ _ _ _ _ _ _ _)
  | with_reducible refine k_lcL ?_
  | with_reducible refine k_lcR ?_
  | with_reducible refine k_for ?_
  | with_reducible refine k_zip ?_
  | with_reducible refine k_rng1 ?_
  | with_reducible refine k_rng2 ?_
  | with_reducible refine k_rng3 ?_
  | with_reducible refine k_makeS ?_
  | ((with_reducible refine' l_make ?hr ?_); (case hr => wtm_at "run"); intro _ _ _ _ _ _ _ _ _)
  | with_reducible refine k_ntt ?_
  | with_reducible refine k_ntf ?_
  | with_reducible refine k_clear ?_
  | ((with_reducible refine' l_clear ?hr ?hx ?hw ?_); (case hr => wtm_at "run"); (case hx => wtm_at "hf"); (case hw => wtm_at "wr"); intro _ _ _ _)
  | with_reducible refine k_ift ?_
  | with_reducible refine k_iff ?_
  | with_reducible refine g_name ?_
  | with_reducible refine k_revL ?_
  | ((with_reducible refine' l_tupL ?hx ?_); (case hx => wtm_at "sq"))
  | with_reducible refine l_intB ?_
  | ((with_reducible refine' l_rev ?hx ?_); (case hx => wtm_at "sq"))
  | ((with_reducible refine' l_gT2 ?hn ?hx ?_); (case hn => exact rfl); (case hx => wtm_at "st"))
  | ((with_reducible refine' l_listL ?hx ?_); (case hx => wtm_at "sq"))
  | ((with_reducible refine' l_listT ?hx ?_); (case hx => wtm_at "st"))
  | fail)
/-! ### the ear -/
theorem pt_Ear_part {x0 x1 y : V} : putF "begun" y ([("behind", x0), ("begun", x1)] : List (Str × V)) = ([("behind", x0), ("begun", y)] : List (Str × V)) := by kernel_rfl
local macro_rules | `(tactic| wtm_at "pt") => `(tactic| with_reducible exact pt_Ear_part)
structure EarS where
  behind : Int
  begun : List SS
  rows : List Row
def EarS.step (E : EarS) (r : Row) : EarS := if E.behind < r.n then ⟨r.n, E.begun, E.rows ++ [r]⟩ else E
def EarS.hear (E : EarS) (rs : List Row) : EarS := rs.foldl EarS.step E
/-- what stands, by what was there at first and what came -/
def stEv (l : List (Str × Str)) (r : Row) : List (Str × Str) := if r.w = "put" then aput l r.k r.v else adrop l r.k
def stBeg (b : List SS) : List (Str × Str) := b.foldl (fun l p => aput l p.k p.v) []
def stAll (b : List SS) (rows : List Row) : List (Str × Str) := rows.foldl stEv (stBeg b)
theorem stBeg_tx {b : List SS} : ∀ {l : List (Str × Str)}, PTx l → PTx (b.foldl (fun l p => aput l p.k p.v) l) := by
  induction b with
  | nil => exact fun h => h
  | cons p b ih => exact fun h => ih (h.put p.ok p.ov)
theorem stEv_tx {l : List (Str × Str)} (h : PTx l) (r : Row) : PTx (stEv l r) := by
  unfold stEv
  split
  · exact h.put r.ok r.ov
  · exact h.drop
theorem stAll_tx {b : List SS} {rows : List Row} : PTx (stAll b rows) := by
  have : ∀ (rows : List Row) (l : List (Str × Str)), PTx l → PTx (rows.foldl stEv l) := by
    intro rows
    induction rows with
    | nil => exact fun l h => h
    | cons r rows ih => exact fun l h => ih _ (stEv_tx h r)
  exact this rows _ (stBeg_tx fun _ z => by cases z)
def EarAt (K : PySem.W.Frag) (H : Hp) (p : Addr) (F : List Addr) (E : EarS) : Prop :=
  ∃ pb pr dx bs ys, F = [p, pb, pr] ∧ H p = some (.ins (He.ga K "Ear") dx (fl_Ear (.int E.behind) (.ref pb) (.ref pr))) ∧ H pb = some (.lst bs) ∧ H pr = some (.lst ys) ∧ Paired (IsS H) bs E.begun ∧ Paired (IsR H) ys E.rows ∧ pb ≠ pr
theorem EarAt.ext {K : PySem.W.Frag} {H H' : Hp} {p : Addr} {F G : List Addr} {E : EarS} (a : EarAt K H p F E) (e : Ext G H H') (h : Apart F G) : EarAt K H' p F E := by
  obtain ⟨pb, pr, dx, bs, ys, rfl, h1, h2, h3, h4, h5, n⟩ := a
  exact ⟨pb, pr, dx, bs, ys, rfl, e.keep _ _ h1 (h _ (by simp)), e.keep _ _ h2 (h _ (by simp)), e.keep _ _ h3 (h _ (by simp)), keepT e.tups h4, keepT e.tups h5, n⟩
theorem EarAt.live {K : PySem.W.Frag} {H : Hp} {p : Addr} {F : List Addr} {E : EarS} (a : EarAt K H p F E) : Live H F := by
  obtain ⟨pb, pr, dx, bs, ys, rfl, h1, h2, h3, h4, h5, n⟩ := a
  exact Live.cons h1 (Live.cons h2 (Live.cons h3 Live.nil))
/-- pairs handed in: None, or a list or a tuple of them -/
def PairsOf (K : PySem.W.Frag) (H : Hp) (v : V) (b : List SS) : Prop := (v = .non ∧ b = []) ∨ ∃ a xs, v = .ref a ∧ (SqL K H a xs ∨ SqT K H a xs) ∧ Paired (IsS H) xs b
def sp_Ear_init (K : PySem.W.Frag) : Sp := fun vs H Q _ => ∃ p dx start v b, vs = [.ref p, .int start, v] ∧ H p = some (.ins (He.ga K "Ear") dx []) ∧ PairsOf K H v b ∧
  ∀ H' F, EarAt K H' p F ⟨start - 1, b, []⟩ → Grow H [p] F → Ext [p] H H' → Q .non H'
section
variable {P : Program} {w : World} {K : PySem.W.Frag} {mg : Str → Option Value} {base : Heap}
theorem sc_Ear_init : FnScope ["self", "start", "pairs"] ["self", "start", "pairs"] (defScope s_Ear_init) := ⟨rfl, rfl, rfl, by decide +kernel, rfl, by decide +kernel, by decide +kernel⟩
theorem ok_Ear_init (T : FX K mg) : FnOk P w K mg base (L2N.CX P w) 1 (He.ma K (He.ga K "Ear") "__init__") (fdAt K ("Ear", some "__init__")) ["self", "start", "pairs"] (sp_Ear_init K) := by
  refine FunD.ok T.F_Ear_init sc_Ear_init (fun vs H Q E h => ?_) (fun cdv A outer s H vs Q E hr h => ?_)
  · (repeat (obtain ⟨_, h⟩ := h)); subst_vars; rfl
  · have hu := hu_of hr
    have hu64 := hr.units
    refine ⟨_,
      (pss_cons
        (ps_fldC T.cl_Ear T.na_Ear_behind (pv 0) (pe_op oIsub (pv 1) pe_int))
      (pss_cons
        (ps_fldC T.cl_Ear T.na_Ear_begun (pv 0) (pe_lst pa_nil))
      (pss_cons
        (ps_if (pt_cmpR oNno (pv 2) pe_non (nomark _))
          (pss_one
            (ps_fldC T.cl_Ear T.na_Ear_begun (pv 0) (pe_callTy oList (by rfl) T.f_list boot_list (pa_cons (pv 2) pa_nil))))
          pss_nil)
      (pss_one
        (ps_fldC T.cl_Ear T.na_Ear_rows (pv 0) (pe_lst pa_nil)))))), ?_⟩
    obtain ⟨p, dx, start, v, b, rfl, hp, hv, k⟩ := h
    have R0 : Run [p] H H := Run.start (by wtm_at "lv")
    repeat wtm_at "k"
    rename_i H1 r1 g1 n1 pb H2 f1 f2 f3 r2 g2 s2 H3 r3 g3 n3
    refine k_fork (fun σ' H' => σ' = [some (.ref p), some (.int start), some v] ∧ Run [p] H H' ∧ ∃ pb bs, H pb = none ∧ H' p = some (.ins (He.ga K "Ear") dx ([("behind", .int (start - 1)), ("begun", .ref pb)] : List (Str × V))) ∧ H' pb = some (.lst bs) ∧ Paired (IsS H') bs b) (fun nx' ky => ?_) ?_
    · rcases hv with ⟨rfl, rfl⟩ | ⟨a, xs, rfl, hq, hx⟩
      · refine k_ifnd (fun c => absurd rfl c) fun _ => ?_
        exact k_next (ky _ _ ⟨rfl, r3, pb, [], f1, g3, by wtm_at "hf", .nil⟩)
      · refine k_ifnd (fun _ => ?_) fun c => by cases c
        have hx3 := keepT (fun a xs h => by wtm_at "hf") hx
        rcases hq with hq | hq
        · have hq3 : SqL K H3 a xs := by
            rcases hq with (hq | ⟨o, hq⟩) | hq
            · exact .inl (.inl (by wtm_at "hf"))
            · exact .inl (.inr ⟨o, by wtm_at "hf"⟩)
            · exact .inr hq
          clear hq
          repeat wtm_at "k"
          rename_i l H4 u1 u2 u3 r4 g4 s4 H5 r5 g5 n5
          exact ky _ _ ⟨rfl, r5, l, xs, u1, g5, by wtm_at "hf", keepT (fun a xs h => by wtm_at "hf") hx3⟩
        · have hq3 : SqT K H3 a xs := by
            rcases hq with (hq | ⟨o, hq⟩) | hq
            · exact .inl (.inl (by wtm_at "hf"))
            · exact .inl (.inr ⟨o, by wtm_at "hf"⟩)
            · exact .inr hq
          clear hq
          repeat wtm_at "k"
          rename_i l H4 u1 u2 u3 r4 g4 s4 H5 r5 g5 n5
          exact ky _ _ ⟨rfl, r5, l, xs, u1, g5, by wtm_at "hf", keepT (fun a xs h => by wtm_at "hf") hx3⟩
    · rintro _ H4 ⟨rfl, r4, pb, bs, fb, g4, h4, hb⟩
      repeat wtm_at "k"
      rename_i pr H5 u1 u2 u3 r5 g5 s5 H6 r6 g6 n6
      refine k H6 [p, pb, pr] ⟨pb, pr, dx, bs, [], rfl, g6, by wtm_at "hf", by wtm_at "hf", keepT (fun a xs h => by wtm_at "hf") hb, .nil, by wtm_at "ne"⟩ ?_ r6.ext
      intro c hc; simp only [List.mem_cons, List.not_mem_nil, or_false] at hc; rcases hc with rfl | rfl | rfl <;> simp [*]
def sp_Ear_heard (K : PySem.W.Frag) : Sp := fun vs H Q _ => ∃ p F E, vs = [.ref p] ∧ EarAt K H p F E ∧ ∀ l H' ys, H l = none → Ext [] H H' → H' l = some (.lst ys) → Paired (IsR H') ys E.rows → Q (.ref l) H'
theorem sc_Ear_heard : FnScope ["self"] ["self"] (defScope s_Ear_heard) := ⟨rfl, rfl, rfl, by decide +kernel, rfl, by decide +kernel, by decide +kernel⟩
theorem ok_Ear_heard (T : FX K mg) : FnOk P w K mg base (L2N.CX P w) 1 (He.ma K (He.ga K "Ear") "heard") (fdAt K ("Ear", some "heard")) ["self"] (sp_Ear_heard K) := by
  refine FunD.ok T.F_Ear_heard sc_Ear_heard (fun vs H Q E h => ?_) (fun cdv A outer s H vs Q E hr h => ?_)
  · (repeat (obtain ⟨_, h⟩ := h)); subst_vars; rfl
  · have hu := hu_of hr
    have hu64 := hr.units
    refine ⟨_,
      (pss_one
        (ps_ret (pe_callTy oList (by rfl) T.f_list boot_list (pa_cons (pe_fldC T.cl_Ear T.na_Ear_rows (pv 0)) pa_nil)))), ?_⟩
    obtain ⟨p, F, E, rfl, ⟨pb, pr, dx, bs, ys, rfl, h1, h2, h3, h4, h5, n⟩, k⟩ := h
    have R0 : Run [] H H := Run.start Live.nil
    repeat wtm_at "k"
    rename_i l H1 u1 u2 u3 r1 g1 s1
    exact k l H1 ys u1 r1.ext g1 (keepT (fun a xs h => by wtm_at "hf") h5)
def sp_Ear_hear (K : PySem.W.Frag) : Sp := fun vs H Q _ => ∃ p F E c ys rs, vs = [.ref p, .ref c] ∧ EarAt K H p F E ∧ SqL K H c ys ∧ c ∉ F ∧ Paired (IsR H) ys rs ∧ E.rows.length + rs.length ≤ 1000000 ∧
  ∀ H', EarAt K H' p F (E.hear rs) → Ext F H H' → Q (.int (E.hear rs).behind) H'
theorem sc_Ear_hear : FnScope ["self", "changes", "change"] ["self", "changes"] (defScope s_Ear_hear) := ⟨rfl, rfl, rfl, by decide +kernel, rfl, by decide +kernel, by decide +kernel⟩
theorem ok_Ear_hear (T : FX K mg) : FnOk P w K mg base (L2N.CX P w) 1 (He.ma K (He.ga K "Ear") "hear") (fdAt K ("Ear", some "hear")) ["self", "changes"] (sp_Ear_hear K) := by
  refine FunD.ok T.F_Ear_hear sc_Ear_hear (fun vs H Q E h => ?_) (fun cdv A outer s H vs Q E hr h => ?_)
  · (repeat (obtain ⟨_, h⟩ := h)); subst_vars; rfl
  · have hu := hu_of hr
    have hu64 := hr.units
    refine ⟨_,
      (pss_cons
        (ps_for pod rfl (pi_list (pv 1)) (pg_name (i := 2) sc_Ear_hear.nd rfl (Or.inl rfl))
          (pss_one
            (ps_if (pt_cmpR oIgt (pe_ix ix_tup (pv 2) pe_int (fun _ _ => rfl)) (pe_fldC T.cl_Ear T.na_Ear_behind (pv 0)) (nomark _))
              (pss_cons
                (ps_expr (pe_bm PySem.F.plainAttrs_list PySem.F.slot_list_append PySem.F.type_list_append mt_append (pe_fldC T.cl_Ear T.na_Ear_rows (pv 0)) (pa_cons (pv 2) pa_nil)))
              (pss_one
                (ps_fldC T.cl_Ear T.na_Ear_behind (pv 0) (pe_ix ix_tup (pv 2) pe_int (fun _ _ => rfl)))))
              pss_nil)))
      (pss_one
        (ps_ret (pe_fldC T.cl_Ear T.na_Ear_behind (pv 0))))), ?_⟩
    obtain ⟨p, F, E, c, ys, rs, rfl, hE, hc, cF, hr, z, k⟩ := h
    repeat wtm_at "k"
    have len := Paired.length hr
    have rl : ∀ i, (E.rows ++ (rs.take i)).length ≤ 1000000 := fun i => by rw [List.length_append]; have := List.length_take_le' i rs; omega
    have hl : ∀ i, ((rs.take i).foldl EarS.step E).rows.length ≤ E.rows.length + (rs.take i).length := by
      have : ∀ (l : List Row) (E : EarS), (l.foldl EarS.step E).rows.length ≤ E.rows.length + l.length := by
        intro l
        induction l with
        | nil => exact fun E => Nat.le_refl _
        | cons r l ih =>
          intro E
          refine Nat.le_trans (ih _) ?_
          unfold EarS.step
          split
          · show (E.rows ++ [r]).length + l.length ≤ E.rows.length + (l.length + 1); rw [List.length_append]; simp; omega
          · show E.rows.length + l.length ≤ E.rows.length + (l.length + 1); omega
      exact fun i => this _ _
    have hlv := hE.live
    refine l_for (xs := ys) hc (fun i σ' H' => ∃ x2, σ' = [some (.ref p), some (.ref c), x2] ∧ Run F H H' ∧ EarAt K H' p F ((rs.take i).foldl EarS.step E)) ?h0 ?hl ?hs ?hd
    case h0 => exact ⟨_, rfl, Run.start hlv, by simpa using hE⟩
    case hl => exact fun i σ' H' _ ⟨_, _, r, _⟩ => r.ext.seqL cF hc
    case hs =>
      intro i x σ' H' ex ⟨x2, es, r1, hE1⟩
      subst es
      obtain ⟨r, er, t, rfl, ht⟩ := getT hr ex
      have ht' : H' t = some (.tup (fR r)) := r1.ext.tups _ _ ht
      have zl := hl i
      have z2 := rl i
      rw [List.length_append] at z2
      obtain ⟨pb, pr, dx, bs, zs, rfl, h1, h2, h3, h4, h5, n⟩ := id hE1
      have lz := Paired.length h5
      have npr : p ≠ pr := by wtm_at "ne"
      have npb : p ≠ pb := by wtm_at "ne"
      generalize hG : (rs.take i).foldl EarS.step E = G at *
      repeat wtm_at "k"
      refine k_ifd (fun cc => ?_) fun cc => ?_
      · repeat wtm_at "k"
        rename_i H2 r2 g2 n2 H3 r3 g3 n3
        refine ⟨_, rfl, r3, ?_⟩
        rw [foldl_snoc er, hG]
        unfold EarS.step
        rw [if_pos cc]
        exact ⟨pb, pr, dx, bs, _, rfl, g3, by wtm_at "hf", by wtm_at "hf", keepT (fun a xs h => by wtm_at "hf") h4, snocT (keepT (fun a xs h => by wtm_at "hf") h5) ⟨t, rfl, by wtm_at "hf"⟩, n⟩
      · repeat wtm_at "k"
        refine ⟨_, rfl, r1, ?_⟩
        rw [foldl_snoc er, hG]
        unfold EarS.step
        rw [if_neg cc]
        exact hE1
    case hd =>
      rintro σ' H' ⟨x2, rfl, r1, hE1⟩
      have e : rs.take ys.length = rs := by rw [len, List.take_length]
      rw [e] at hE1
      obtain ⟨pb, pr, dx, bs, zs, rfl, h1, h2, h3, h4, h5, n⟩ := id hE1
      have h1' : H' p = some (.ins (He.ga K "Ear") dx (fl_Ear (.int (E.hear rs).behind) (.ref pb) (.ref pr))) := h1
      clear h1
      repeat wtm_at "k"
      exact k H' hE1 r1.ext
def sp_Ear_state (K : PySem.W.Frag) : Sp := fun vs H Q _ => ∃ p F E, vs = [.ref p] ∧ EarAt K H p F E ∧ E.begun.length + E.rows.length ≤ 1000000 ∧ (stAll E.begun E.rows).length ≤ 1000 ∧
  ∀ l H' ys, H l = none → Ext [] H H' → H' l = some (.lst ys) → Paired (IsS H') ys (sortedPairs (stAll E.begun E.rows)) → Q (.ref l) H'
theorem sc_Ear_state : FnScope ["self", "found", "change", "key", "value"] ["self"] (defScope s_Ear_state) := ⟨rfl, rfl, rfl, by decide +kernel, rfl, by decide +kernel, by decide +kernel⟩
theorem ok_Ear_state (T : FX K mg) : FnOk P w K mg base (L2N.CX P w) 1 (He.ma K (He.ga K "Ear") "state") (fdAt K ("Ear", some "state")) ["self"] (sp_Ear_state K) := by
  refine FunD.ok T.F_Ear_state sc_Ear_state (fun vs H Q E h => ?_) (fun cdv A outer s H vs Q E hr h => ?_)
  · (repeat (obtain ⟨_, h⟩ := h)); subst_vars; rfl
  · have hu := hu_of hr
    have hu64 := hr.units
    refine ⟨_,
      (pss_cons
        (ps_set (i := 1) sc_Ear_state.nd rfl (Or.inr rfl) pe_dnewK)
      (pss_cons
        (ps_for pod rfl (pi_list (pe_fldC T.cl_Ear T.na_Ear_begun (pv 0))) (pg_tup rfl (pgs_cons (pg_name (i := 3) sc_Ear_state.nd rfl (Or.inl rfl)) (pgs_cons (pg_name (i := 4) sc_Ear_state.nd rfl (Or.inl rfl)) pgs_nil)))
          (pss_one
            (ps_dput hu (pv 1) (pv 3) (pv 4) rfl)))
      (pss_cons
        (ps_for pod rfl (pi_list (pe_fldC T.cl_Ear T.na_Ear_rows (pv 0))) (pg_name (i := 2) sc_Ear_state.nd rfl (Or.inl rfl))
          (pss_one
            (ps_if (pt_cmpR oSeq (pe_ix ix_tup (pv 2) pe_int (fun _ _ => rfl)) pe_str (nomark _))
              (pss_one
                (ps_dput hu (pv 1) (pe_ix ix_tup (pv 2) pe_int (fun _ _ => rfl)) (pe_ix ix_tup (pv 2) pe_int (fun _ _ => rfl)) rfl))
              (pss_one
                (ps_if (pt_cmp (pc_din hu (pe_ix ix_tup (pv 2) pe_int (fun _ _ => rfl)) (pv 1)))
                  (pss_one
                    (ps_expr (pe_dpop1 (pv 1) (pe_ix ix_tup (pv 2) pe_int (fun _ _ => rfl)) ⟨rfl, rfl, rfl, rfl⟩)))
                  pss_nil)))))
      (pss_one
        (ps_ret (pe_lc (own := [("key", 3)]) (g := gName 3) rfl sc_Ear_state.nd (pi_list (pe_callB (oSortD rfl) (by rfl) T.f_sorted (by decide +kernel) (pa_cons (pv 1) pa_nil))) (blkOk_by (N := ["self", "found", "change", "key", "value"]) (sc := defScope s_Ear_state) (by decide +kernel)) (fun _ _ _ _ _ => (pg_name (i := 3) sc_Ear_state.nd rfl (Or.inl rfl))) (fun _ _ _ _ _ => pts_nil) (fun _ _ _ _ _ => (pe_tup (pa_cons (pv 3) (pa_cons (pe_dget hu (pv 1) (pv 3) (fun _ _ => rfl)) pa_nil)))))))))), ?_⟩
    obtain ⟨p, F, E, rfl, ⟨pb, pr, dx, bs, ys, rfl, h1, h2, h3, h4, h5, n⟩, zz, z64, k⟩ := h
    have R0 : Run [] H H := Run.start Live.nil
    repeat wtm_at "k"
    rename_i d H1 u1 u2 u3 r1 g1 s1
    have txb : ∀ i, PTx ((E.begun.take i).foldl (fun l (p : SS) => aput l p.k p.v) []) := fun i => stBeg_tx fun _ z => by cases z
    have lb := Paired.length h4
    have lr := Paired.length h5
    have len1 : ∀ (b : List SS) (l : List (Str × Str)), (b.foldl (fun l (p : SS) => aput l p.k p.v) l).length ≤ l.length + b.length := by
      intro b
      induction b with
      | nil => exact fun l => Nat.le_refl _
      | cons p b ih =>
        intro l
        refine Nat.le_trans (ih _) ?_
        have := length_aput (l := l) (k := p.k) (v := p.v)
        show (aput l p.k p.v).length + b.length ≤ l.length + (b.length + 1)
        omega
    have len2 : ∀ (b : List Row) (l : List (Str × Str)), (b.foldl stEv l).length ≤ l.length + b.length := by
      intro b
      induction b with
      | nil => exact fun l => Nat.le_refl _
      | cons r b ih =>
        intro l
        refine Nat.le_trans (ih _) ?_
        have : (stEv l r).length ≤ l.length + 1 := by
          unfold stEv
          split
          · exact length_aput
          · exact Nat.le_succ_of_le length_adrop
        show _ ≤ l.length + (b.length + 1)
        omega
    refine l_for (xs := bs) (SqL.of (by wtm_at "hf")) (fun i σ' H' => ∃ x3 x4, σ' = [some (.ref p), some (.ref d), none, x3, x4] ∧ Run [] H H' ∧ H' d = some (.dK (sk sv ((E.begun.take i).foldl (fun l (p : SS) => aput l p.k p.v) [])))) ?h0 ?hl ?hs ?hd
    case h0 => exact ⟨_, _, rfl, r1, by wtm_at "hf"⟩
    case hl => exact fun i σ' H' _ ⟨_, _, _, r, _⟩ => SqL.of (r.ext.keep _ _ h2 (by simp))
    case hs =>
      intro i x σ' H' ex ⟨x3, x4, es, r2, g2⟩
      subst es
      obtain ⟨q, eq, t, rfl, ht⟩ := getT h4 ex
      have ht' : H' t = some (.tup (fS q)) := r2.ext.tups _ _ ht
      have zl := len1 (E.begun.take i) []
      have z2 := List.length_take_le' i E.begun
      have zd : (sk sv ((E.begun.take i).foldl (fun l (p : SS) => aput l p.k p.v) [])).length < sizeLine := by rw [sk_len]; exact smallM (by simp at zl; omega)
      rw [show (E.begun.take (i + 1)).foldl (fun l (p : SS) => aput l p.k p.v) [] = aput ((E.begun.take i).foldl (fun l (p : SS) => aput l p.k p.v) []) q.k q.v from foldl_snoc eq]
      generalize (E.begun.take i).foldl (fun l (p : SS) => aput l p.k p.v) [] = l at *
      repeat wtm_at "k"
      rename_i H3 r3 g3 n3
      exact ⟨_, _, rfl, r3, g3⟩
    case hd =>
      rintro σ' H' ⟨x3, x4, rfl, r2, g2⟩
      have e : E.begun.take bs.length = E.begun := by rw [lb, List.take_length]
      rw [e] at g2
      have b1 := r2.ext.keep _ _ h1 (by simp)
      have b3 := r2.ext.keep _ _ h3 (by simp)
      repeat wtm_at "k"
      refine l_for (xs := ys) (SqL.of b3) (fun i σ' H' => ∃ x2 x3 x4, σ' = [some (.ref p), some (.ref d), x2, x3, x4] ∧ Run [] H H' ∧ H' d = some (.dK (sk sv ((E.rows.take i).foldl stEv (stBeg E.begun))))) ?h0 ?hl ?hs ?hd
      case h0 => exact ⟨_, _, _, rfl, r2, g2⟩
      case hl => exact fun i σ' H' _ ⟨_, _, _, _, r, _⟩ => SqL.of (r.ext.keep _ _ h3 (by simp))
      case hs =>
        intro i x σ' H3 ex ⟨x2, x3, x4, es, r3, g3⟩
        subst es
        obtain ⟨r, er, t, rfl, ht⟩ := getT h5 ex
        have ht' : H3 t = some (.tup (fR r)) := r3.ext.tups _ _ ht
        have zl := len2 (E.rows.take i) (stBeg E.begun)
        have zl1 : (stBeg E.begun).length ≤ 0 + E.begun.length := len1 E.begun []
        have z2 := List.length_take_le' i E.rows
        have zd : (sk sv ((E.rows.take i).foldl stEv (stBeg E.begun))).length < sizeLine := by rw [sk_len]; exact smallM (by omega)
        rw [foldl_snoc er]
        generalize (E.rows.take i).foldl stEv (stBeg E.begun) = l at *
        unfold stEv
        repeat wtm_at "k"
        refine k_ifd (fun cc => ?_) fun cc => ?_
        · rw [if_pos cc]
          repeat wtm_at "k"
          rename_i H4 r4 g4 n4
          exact ⟨_, _, _, rfl, r4, g4⟩
        · rw [if_neg cc]
          repeat wtm_at "k"
          rw [valV_sk]
          cases ca : aget l r.k with
          | none =>
            refine k_iff (k_next ⟨_, _, _, rfl, r3, ?_⟩)
            rw [adrop_none ca]
            exact g3
          | some v =>
            refine k_ift ?_
            repeat wtm_at "k"
            rename_i H4 r4 g4 n4
            exact ⟨_, _, _, rfl, r4, g4⟩
      case hd =>
        rintro σ' H3 ⟨x2, x3, x4, rfl, r3, g3⟩
        have e : E.rows.take ys.length = E.rows := by rw [lr, List.take_length]
        rw [e] at g3
        have g3 : H3 d = some (.dK (sk sv (stAll E.begun E.rows))) := g3
        repeat wtm_at "k"
        have tx : PTx (stAll E.begun E.rows) := stAll_tx
        refine l_sortD r3 g3 fun l H4 v1 v2 v3 r4 g4 s4 => ?_
        have g3' : H4 d = some (.dK (sk sv (stAll E.begun E.rows))) := s4 _ _ g3
        unfold sortedPairs at k
        generalize hks : sortS ((stAll E.begun E.rows).map (·.1)) = ks at *
        have mk : ∀ y ∈ ks, ∃ v, aget (stAll E.begun E.rows) y = some v := by
          intro y hy
          rw [← hks] at hy
          have := (sortS_perm _).mem_iff.mp hy
          cases ca : aget (stAll E.begun E.rows) y with
          | none => exact absurd this (aget_none.mp ca)
          | some v => exact ⟨v, rfl⟩
        refine l_lcL (j := 3) (xs := ks.map V.str) (SqL.of g4) ?_ (fun i acc H' => Paired (IsS H') acc ((ks.take i).map fun y => ssOf (y, (aget (stAll E.begun E.rows) y).getD Str.empty))) .nil (fun i acc H1 H2 t h => keepT t h) (fun i x acc H5 R R0' ex e5 hl hP q1 q0 => ?_) (fun D H5 acc nD e5 hD lD hP => ?_)
        · have : ks.length = (stAll E.begun E.rows).length := by rw [← hks, (sortS_perm _).length_eq, List.length_map]
          rw [List.length_map, this]
          exact smallM (by omega)
        · obtain ⟨y, ey, rfl⟩ := getM ex
          obtain ⟨v, ev⟩ := mk y (List.mem_of_getElem? ey)
          have g5 : H5 d = some (.dK (sk sv (stAll E.begun E.rows))) := e5.keep _ _ g3' (by simp)
          have ve := valV_sv ev
          have R5 : Run [] H5 H5 := Run.start Live.nil
          repeat wtm_at "k"
          rename_i t H6 w1 w2 w3 r6 g6 s6
          refine q1 _ _ r6.ext ?_
          rw [take_map_snoc ey]
          refine snocT (keepT r6.ext.tups hP) ⟨t, rfl, ?_⟩
          rw [ev, Option.getD_some, ssOf_eq (tx _ (aget_some_mem ev))]
          exact g6
        · refine k D H5 acc (r4.ext.free nD (by simp)) (r4.ext.trans e5) hD ?_
          have e : ks.take (ks.map V.str).length = ks := by rw [List.length_map, List.take_length]
          rw [e] at hP
          exact hP
end
end LW

set_option maxHeartbeats 4000000
namespace LW
open PySem PySem.Spec PyProof.Rows L2
local macro_rules | `(tactic| wtm_at "vk") => `(tactic| first
  | assumption
  | with_reducible exact rv_mf_given
  | with_reducible exact rv_mf_free
  | exact valV_sv (by assumption)
  | exact valV_iv (by assumption)
  | fail)
local macro_rules | `(tactic| wtm_at "pk") => `(tactic| first
  | with_reducible exact putK_iv
  | with_reducible exact dropK_ik
  | with_reducible exact dropK_sk
  | with_reducible exact rp_mf_given
  | with_reducible exact rp_mf_free
  | exact putK_sv
  | assumption
  | fail)
local macro_rules | `(tactic| wtm_at "rm") => `(tactic| first
  | with_reducible exact rm_mf
  | exact rfl
  | fail)
local macro_rules | `(tactic| wtm_at "rl") => `(tactic| first
  | with_reducible exact rl_mf
  | with_reducible assumption
  | fail)
local macro_rules | `(tactic| wtm_at "lk") => `(tactic| with_reducible first
  | exact lk_Ear_behind
  | exact lk_Ear_begun
  | exact lk_Ear_rows
  | exact lk_Line_room
  | exact lk_Line_watcher
  | exact lk_Line_ear
  | exact lk_Leases_given
  | exact lk_Leases_spans
  | exact lk_Leases_ends
  | exact lk_Log_rows
  | exact lk_Log_gone
  | exact lk_Watcher_prefix
  | exact lk_Watcher_had
  | exact lk_Watcher_told
  | exact lk_Room_now
  | exact lk_Room_leases
  | exact lk_Room_log
  | exact lk_Room_kept
  | exact lk_Room_watchers
  | exact lk_Room_met
  | fail)
local macro_rules | `(tactic| wtm_at "lm") => `(tactic| with_reducible first
  | exact lm_Ear_hear
  | exact lm_Ear_heard
  | exact lm_Ear_state
  | exact lm_Line_turn
  | exact lm_Leases_grant
  | exact lm_Leases_need
  | exact lm_Leases_renew
  | exact lm_Leases_drop
  | exact lm_Leases_due
  | exact lm_Log_note
  | exact lm_Log_last
  | exact lm_Log_first
  | exact lm_Log_wanted
  | exact lm_Log_forget
  | exact lm_Room_grant
  | exact lm_Room_renew
  | exact lm_Room_drop
  | exact lm_Room_wait
  | exact lm_Room_free
  | exact lm_Room_put
  | exact lm_Room_cut
  | exact lm_Room_value
  | exact lm_Room_holder
  | exact lm_Room_pairs
  | exact lm_Room_last
  | exact lm_Room_first
  | exact lm_Room_watch
  | exact lm_Room_need
  | exact lm_Room_pull
  | exact lm_Room_confirm
  | exact lm_Room_broken
  | exact lm_Room_leave
  | exact lm_Room_trim
  | fail)
local macro_rules | `(tactic| wtm_at "pt") => `(tactic| with_reducible first
  | exact pt_Ear_behind
  | exact pt_Ear_begun
  | exact pt_Ear_rows
  | exact pi_Ear_0
  | exact pi_Ear_1
  | exact pi_Ear_2
  | exact pt_Line_room
  | exact pt_Line_watcher
  | exact pt_Line_ear
  | exact pi_Line_0
  | exact pi_Line_1
  | exact pi_Line_2
  | exact pt_Leases_given
  | exact pt_Leases_spans
  | exact pt_Leases_ends
  | exact pi_Leases_0
  | exact pi_Leases_1
  | exact pi_Leases_2
  | exact pt_Log_rows
  | exact pt_Log_gone
  | exact pi_Log_0
  | exact pi_Log_1
  | exact pt_Watcher_prefix
  | exact pt_Watcher_had
  | exact pt_Watcher_told
  | exact pi_Watcher_0
  | exact pi_Watcher_1
  | exact pi_Watcher_2
  | exact pt_Room_now
  | exact pt_Room_leases
  | exact pt_Room_log
  | exact pt_Room_kept
  | exact pt_Room_watchers
  | exact pt_Room_met
  | exact pi_Room_0
  | exact pi_Room_1
  | exact pi_Room_2
  | exact pi_Room_3
  | exact pi_Room_4
  | exact pi_Room_5
  | fail)
local macro_rules | `(tactic| wtm_at "lz") => `(tactic| with_reducible first
  | exact lz_Ear
  | exact lz_Line
  | exact lz_Leases
  | exact lz_Log
  | exact lz_Watcher
  | exact lz_Room
  | (simp only [List.length_cons, List.length_nil]; decide)
  | exact (by decide)
  | fail)
local macro_rules | `(tactic| wtm_at "hf") => `(tactic| first
  | assumption
  | (refine' hf_s ?hs ?hx; (case hs => assumption); (case hx => wtm_at "hf"))
  | (refine' hf_n ?hs ?hx ?ne; (case hs => assumption); (case hx => wtm_at "hf"); (case ne => wtm_at "ne"))
  | (refine' hf_e ?hs ?hx ?hy; (case hs => assumption); (case hx => wtm_at "hf"); (case hy => wtm_at "nin"))
  | fail)
local macro_rules | `(tactic| wtm_at "ne") => `(tactic| first
  | assumption
  | (apply Ne.symm; assumption)
  | (refine' ne_of_none ?hx ?hy; (case hy => assumption); (case hx => wtm_at "hf"))
  | (refine' (ne_of_none ?hx ?hy).symm; (case hy => assumption); (case hx => wtm_at "hf"))
  | (refine' ne_of ?hx ?hy ?hz; (case hx => assumption); (case hy => assumption); (case hz => intro z; cases z))
  | fail)
local macro_rules | `(tactic| wtm_at "nin") => `(tactic| first
  | assumption
  | exact notin_nil
  | (refine' notin_cons ?hx ?hy; (case hx => wtm_at "ne"); (case hy => wtm_at "nin"))
  | fail)
local macro_rules | `(tactic| wtm_at "mem") => `(tactic| first
  | assumption
  | exact List.mem_cons_self
  | (refine' List.mem_cons_of_mem _ ?hx; (case hx => wtm_at "mem"))
  | fail)
local macro_rules | `(tactic| wtm_at "wr") => `(tactic| first
  | exact Or.inr (by assumption)
  | exact Or.inl (by wtm_at "mem")
  | fail)
local macro_rules | `(tactic| wtm_at "lv") => `(tactic| first
  | assumption
  | exact Live.nil
  | (refine' Live.cons ?hx ?hy; (case hx => wtm_at "hf"); (case hy => wtm_at "lv"))
  | fail)
local macro_rules | `(tactic| wtm_at "run") => `(tactic| first
  | assumption
  | (refine' Run.same ?hx ?hy; (case hy => assumption); (case hx => wtm_at "run"))
  | fail)
local macro_rules | `(tactic| wtm_at "sq") => `(tactic| first
  | assumption
  | (refine' Run.seq ?hx ?hy; (case hx => assumption); (case hy => assumption))
  | (refine' SqL.of ?hx; (case hx => wtm_at "hf"))
  | (refine' Same.seq ?hx ?hy; (case hx => assumption); (case hy => wtm_at "sq"))
  | (refine' Ext.seqL ?hx ?hz ?hy; (case hx => assumption); (case hy => wtm_at "sq"); (case hz => wtm_at "nin"))
  | fail)
local macro_rules | `(tactic| wtm_at "st") => `(tactic| first
  | assumption
  | (refine' SqT.of ?hx; (case hx => wtm_at "hf"))
  | fail)
local macro_rules | `(tactic| wtm_at "ix") => `(tactic| first
  | assumption
  | exact rfl
  | fail)
local macro_rules | `(tactic| wtm_at "sz") => `(tactic| first
  | wtm_at "rl"
  | with_reducible assumption
  | (rw [ik_len]; wtm_at "sz")
  | (rw [sk_len]; wtm_at "sz")
  | exact smallM (by assumption)
  | exact smallM (by omega)
  | exact smallM (by simp only [List.length_cons, List.length_nil, List.length_append, List.length_map]; omega)
  | fail)
local macro_rules | `(tactic| wtm_at "tx") => `(tactic| first
  | assumption
  | ((with_reducible refine' Tx.app ?hx ?hy); (case hx => wtm_at "tx"); (case hy => wtm_at "tx"))
  | ((with_reducible refine' Tx.cut ?hx); (case hx => wtm_at "tx"))
  | with_reducible exact Tx.nil
  | fail)
local macro_rules | `(tactic| wtm_at "k") => `(tactic| first
  | with_reducible refine k_seq ?_
  | with_reducible refine k_next ?_
  | with_reducible refine k_asg ?_
  | with_reducible refine k_ret ?_
  | with_reducible refine k_retN ?_
  | with_reducible refine k_asgS ?_
  | ((with_reducible refine' l_setL ?hr ?hx ?he ?h2 ?hw ?_); (case hr => wtm_at "run"); (case hx => wtm_at "hf"); (case he => exact rfl); (case h2 => exact rfl); (case hw => wtm_at "wr"); intro _ _ _ _)
  | with_reducible refine k_minD ?_
  | with_reducible refine k_drop ?_
  | with_reducible refine k_ifS ?_
  | ((with_reducible refine' k_var ?hx ?_); (case hx => exact rfl))
  | with_reducible refine k_c ?_
  | with_reducible refine k_negc ?_
  | with_reducible refine k_neg ?_
  | with_reducible refine l_neg ?_
  | with_reducible refine k_op ?_
  | with_reducible refine k_cb ?_
  | with_reducible refine k_nil ?_
  | with_reducible refine k_cons ?_
  | with_reducible refine k_test ?_
  | with_reducible refine k_B ?_
  | with_reducible refine k_not ?_
  | with_reducible refine k_and ?_
  | with_reducible refine k_or ?_
  | with_reducible refine k_notV ?_
  | with_reducible refine k_andV ?_
  | with_reducible refine k_orV ?_
  | with_reducible refine k_bl ?_
  | with_reducible refine k_add ?_
  | with_reducible refine k_sub ?_
  | ((with_reducible refine' k_mod ?hx ?_); (case hx => first | decide | omega))
  | ((with_reducible refine' k_div ?hx ?_); (case hx => first | exact ⟨by decide, by decide⟩ | exact ⟨by omega, by omega⟩))
  | ((with_reducible refine' k_mul ?hx ?_); (case hx => first | exact Or.inl ⟨by decide, by decide⟩ | exact Or.inr ⟨by decide, by decide⟩ | exact Or.inl ⟨by omega, by omega⟩))
  | with_reducible refine k_chain ?_
  | with_reducible refine k_p6 ?_
  | with_reducible refine k_p9 ?_
  | with_reducible refine k_p12 ?_
  | with_reducible refine k_p13 ?_
  | with_reducible refine k_p18 ?_
  | with_reducible refine k_p30 ?_
  | with_reducible refine k_lt ?_
  | with_reducible refine k_le ?_
  | with_reducible refine k_gt ?_
  | with_reducible refine k_ge ?_
  | with_reducible refine k_eq ?_
  | with_reducible refine k_ne ?_
  | with_reducible refine k_seqS ?_
  | with_reducible refine k_neS ?_
  | with_reducible refine k_neB ?_
  | with_reducible refine k_isN ?_
  | with_reducible refine k_noN ?_
  | with_reducible refine k_fld ?_
  | ((with_reducible refine' l_fld ?hx ?hy ?_); (case hx => wtm_at "hf"); (case hy => wtm_at "lk"))
  | with_reducible refine k_fldS ?_
  | ((with_reducible refine' l_fldS ?hr ?hx ?hz ?hy ?hw ?_); (case hr => wtm_at "run"); (case hx => wtm_at "hf"); (case hy => wtm_at "pt"); (case hz => wtm_at "lz"); (case hw => wtm_at "wr"); intro _ _ _ _)
  | ((with_reducible refine' l_new ?hr ?_); (case hr => wtm_at "run"); intro _ _ _ _ _ _ _ _)
  | with_reducible refine k_append ?_
  | ((with_reducible refine' l_tyL ?hx ?_); (case hx => wtm_at "hf"))
  | ((with_reducible refine' l_ins ?hx ?hy ?_); (case hx => wtm_at "hf"); (case hy => wtm_at "lm"))
  | with_reducible refine k_methS ?_
  | with_reducible refine k_methG ?_
  | with_reducible refine k_makeG ?_
  | with_reducible refine k_meth0 ?_
  | with_reducible refine k_callS ?_
  | with_reducible refine k_callE ?_
  | with_reducible refine k_dget ?_
  | with_reducible refine k_din ?_
  | with_reducible refine k_dnotin ?_
  | with_reducible refine k_dput ?_
  | with_reducible refine k_dpop ?_
  | with_reducible refine k_dget2 ?_
  | with_reducible refine k_tup ?_
  | with_reducible refine k_lst ?_
  | with_reducible refine k_dnew ?_
  | ((with_reducible refine' l_tup ?hx ?_); (case hx => simp only [List.length_cons, List.length_nil]; decide))
  | ((with_reducible refine' l_lst ?hx ?_); (case hx => simp only [List.length_cons, List.length_nil]; decide))
  | ((with_reducible refine' l_isD ?hx ?_); (case hx => wtm_at "hf"))
  | ((with_reducible refine' l_dinI ?hx ?_); (case hx => wtm_at "hf"))
  | ((with_reducible refine' l_dinS ?hx ?_); (case hx => wtm_at "hf"))
  | ((with_reducible refine' l_dnotinI ?hx ?_); (case hx => wtm_at "hf"))
  | ((with_reducible refine' l_dnotinS ?hx ?_); (case hx => wtm_at "hf"))
  | ((with_reducible refine' l_dputI ?hr ?hx ?hz ?hy ?hw ?_); (case hr => wtm_at "run"); (case hx => wtm_at "hf"); (case hy => wtm_at "pk"); (case hz => wtm_at "sz"); (case hw => wtm_at "wr"); intro _ _ _ _)
  | ((with_reducible refine' l_dputS ?hr ?hx ?hz ?hy ?hw ?_); (case hr => wtm_at "run"); (case hx => wtm_at "hf"); (case hy => wtm_at "pk"); (case hz => wtm_at "sz"); (case hw => wtm_at "wr"); intro _ _ _ _)
  | ((with_reducible refine' l_dpopI ?hr ?hx ?hz ?hy ?hw ?_); (case hr => wtm_at "run"); (case hx => wtm_at "hf"); (case hy => wtm_at "pk"); (case hz => wtm_at "vk"); (case hw => wtm_at "wr"); intro _ _ _ _)
  | ((with_reducible refine' l_dpopS ?hr ?hx ?hz ?hy ?hw ?_); (case hr => wtm_at "run"); (case hx => wtm_at "hf"); (case hy => wtm_at "pk"); (case hz => wtm_at "vk"); (case hw => wtm_at "wr"); intro _ _ _ _)
  | ((with_reducible refine' l_dgetI ?hx ?hz ?_); (case hx => wtm_at "hf"); (case hz => wtm_at "vk"))
  | ((with_reducible refine' l_dgetS ?hx ?hz ?_); (case hx => wtm_at "hf"); (case hz => wtm_at "vk"))
  | ((with_reducible refine' l_dgetIF ?hx ?hz ?_); (case hx => wtm_at "hf"); (case hz => wtm_at "vk"))
  | ((with_reducible refine' l_dgetSF ?hx ?hz ?_); (case hx => wtm_at "hf"); (case hz => wtm_at "vk"))
  | ((with_reducible refine' l_dgetZ ?hx ?hz ?_); (case hx => wtm_at "hf"); (case hz => wtm_at "vk"))
  | ((with_reducible refine' k_disp ?hr ?_); (case hr => wtm_at "run"); intro _ _ _ _ _ _ _ _)
  | with_reducible refine k_pcons ?_
  | with_reducible refine k_pnil ?_
  | ((with_reducible refine' l_disp ?hr ?hx ?hu ?hv ?hy ?hw ?_); (case hr => wtm_at "run"); (case hx => wtm_at "hf"); (case hu => exact rfl); (case hv => simp only [List.length_map, List.length_cons, List.length_nil]; decide); (case hy => wtm_at "rm"); (case hw => wtm_at "wr"); intro _ _ _ _)
  | ((with_reducible refine' l_append ?hr ?hx ?hz ?hw ?_); (case hr => wtm_at "run"); (case hx => wtm_at "hf"); (case hz => wtm_at "sz"); (case hw => wtm_at "wr"); intro _ _ _ _)
  | ((with_reducible refine' l_isEt ?hx ?_); (case hx => first | exact isD (ExcK.kit (by assumption) _ (by wtm_at "mem") _ (by wtm_at "mem")) | exact isC (ExcK.kit (by assumption) _ (by wtm_at "mem") _ (by wtm_at "mem")) (by decide)))
  | ((with_reducible refine' l_isEV ?hx ?_); (case hx => exact ExcK.kitV (by assumption) _ (by wtm_at "mem")))
  | ((with_reducible refine' l_isiI ?hx ?_); (case hx => first | rfl | assumption))
  | ((with_reducible refine' l_isiB ?hx ?_); (case hx => first | rfl | assumption))
  | with_reducible refine l_isiSS ?_
  | ((with_reducible refine' l_isiS ?hx ?_); (case hx => first | rfl | assumption))
  | ((with_reducible refine' l_isiL ?hx ?_); (case hx => wtm_at "hf"))
  | ((with_reducible refine' l_isiO ?hx ?hy ?hz ?_); (case hx => wtm_at "hf"); (case hy => assumption); (case hz => assumption))
  | ((with_reducible refine' l_isiT ?hx ?_); (case hx => wtm_at "hf"))
  | ((with_reducible refine' l_lenL ?hx ?_); (case hx => wtm_at "sq"))
  | ((with_reducible refine' l_lenT ?hx ?_); (case hx => wtm_at "st"))
  | ((with_reducible refine' l_lenDK ?hx ?_); (case hx => wtm_at "hf"))
  | ((with_reducible refine' l_ixL ?hx ?hy ?_); (case hx => wtm_at "sq"); (case hy => wtm_at "ix"))
  | ((with_reducible refine' l_ixT ?hx ?hy ?_); (case hx => wtm_at "st"); (case hy => wtm_at "ix"))
  | with_reducible refine k_m1 ?_
  | with_reducible refine l_strX ?_
  | with_reducible refine l_sw ?_
  | ((with_reducible refine' x_addS ?hx ?hy ?hz ?_); (case hx => wtm_at "tx"); (case hy => wtm_at "tx"); (case hz => decide))
  | ((with_reducible refine' x_slS ?hx ?hz ?_); (case hx => wtm_at "tx"); (case hz => decide))
  | ((with_reducible refine' x_lenX ?hx ?hz ?_); (case hx => wtm_at "tx"); (case hz => decide))
  | with_reducible refine l_max ?_
  | with_reducible refine l_min ?_
  | with_reducible refine l_abs ?_
  | with_reducible refine k_sl ?_
  | with_reducible refine k_part ?_
  | with_reducible refine l_part ?_
  | with_reducible refine k_nopart ?_
  | with_reducible refine k_yes ?_
  | ((with_reducible refine' l_slL ?hr ?hx ?_); (case hr => wtm_at "run"); (case hx => wtm_at "sq"); intro _ _ _ _ _ _ _ _)
  | with_reducible refine k_lcL ?_
  | with_reducible refine k_lcR ?_
  | with_reducible refine k_for ?_
  | with_reducible refine k_zip ?_
  | with_reducible refine k_rng1 ?_
  | with_reducible refine k_rng2 ?_
  | with_reducible refine k_rng3 ?_
  | with_reducible refine k_makeS ?_
  | ((with_reducible refine' l_make ?hr ?_); (case hr => wtm_at "run"); intro _ _ _ _ _ _ _ _ _)
  | with_reducible refine k_ntt ?_
  | with_reducible refine k_ntf ?_
  | with_reducible refine k_clear ?_
  | ((with_reducible refine' l_clear ?hr ?hx ?hw ?_); (case hr => wtm_at "run"); (case hx => wtm_at "hf"); (case hw => wtm_at "wr"); intro _ _ _ _)
  | with_reducible refine k_ift ?_
  | with_reducible refine k_iff ?_
  | with_reducible refine g_name ?_
  | with_reducible refine k_revL ?_
  | ((with_reducible refine' l_tupL ?hx ?_); (case hx => wtm_at "sq"))
  | with_reducible refine l_intB ?_
  | ((with_reducible refine' l_rev ?hx ?_); (case hx => wtm_at "sq"))
  | ((with_reducible refine' l_gT2 ?hn ?hx ?_); (case hn => exact rfl); (case hx => wtm_at "st"))
  | ((with_reducible refine' l_listL ?hx ?_); (case hx => wtm_at "sq"))
  | ((with_reducible refine' l_listT ?hx ?_); (case hx => wtm_at "st"))
  | fail)
local macro_rules | `(tactic| wtm_at "k") => `(tactic| first
  | with_reducible refine k_wholeI ?_
  | ((with_reducible refine' k_whole ?hx ?_); (case hx => first | rfl | assumption))
  | ((with_reducible refine' k_cell ?hx ?hy ?_); (case hx => first | decide | omega | assumption); (case hy => wtm_at "sq"))
  | fail)
/-! ### texts that are drawn -/
section
variable {P : Program} {w : World} {K : PySem.W.Frag} {mg : Str → Option Value} {base : Heap}
def sp_l_sign (K : PySem.W.Frag) : Sp := fun vs H Q _ => ∃ c, vs = [.int c] ∧ ∀ s, Tx 1 s → s.length = 1 → Q (.str s) H
theorem sc_l_sign : FnScope ["_law_cell", "_law_some"] ["_law_cell"] (defScope s_l_sign) := ⟨rfl, rfl, rfl, by decide +kernel, rfl, by decide +kernel, by decide +kernel⟩
theorem ok_l_sign (T : FX K mg) : FnOk P w K mg base (L2N.CX P w) 1 (He.ga K "_law_sign") (fdAt K ("_law_sign", none)) ["_law_cell"] (sp_l_sign K) := by
  refine FunD.ok T.F_l_sign sc_l_sign (fun vs H Q E h => ?_) (fun cdv A outer s H vs Q E hr h => ?_)
  · (repeat (obtain ⟨_, h⟩ := h)); subst_vars; rfl
  · have hu := hu_of hr
    have hu64 := hr.units
    refine ⟨_,
      (pss_cons
        (ps_set (i := 1) sc_l_sign.nd rfl (Or.inl rfl) pe_str)
      (pss_cons
        (ps_set (i := 1) sc_l_sign.nd rfl (Or.inl rfl) (pe_op oSadd (pv 1) pe_str))
      (pss_one
        (ps_ret (pe_ix ix_str (pv 1) (pe_op oImod (pv 0) pe_int) (fun _ _ => rfl)))))), ?_⟩
    obtain ⟨c, rfl, k⟩ := h
    repeat wtm_at "k"
    refine k_addS (by decide +kernel) ?_
    repeat wtm_at "k"
    exact l_ixS (by decide +kernel) (by omega) (Int.lt_of_lt_of_le (show c % 94 < 94 by omega) (by decide +kernel)) (by decide +kernel) fun s o l => k s ⟨o, by omega⟩ l
def sp_l_text (K : PySem.W.Frag) : Sp := fun vs H Q _ => ∃ c n, vs = [.int c, .int n] ∧ 0 ≤ n ∧ n ≤ 100 ∧ ∀ s H', Tx 100 s → Ext [] H H' → (s.length : Int) = n → Q (.str s) H'
theorem sc_l_text : FnScope ["_law_cell", "_law_size", "_law_k"] ["_law_cell", "_law_size"] (defScope s_l_text) := ⟨rfl, rfl, rfl, by decide +kernel, rfl, by decide +kernel, by decide +kernel⟩
theorem ok_l_text (T : FX K mg) : FnOk P w K mg base (L2N.CX P w) 2 (He.ga K "_law_text") (fdAt K ("_law_text", none)) ["_law_cell", "_law_size"] (sp_l_text K) := by
  refine FunD.ok T.F_l_text sc_l_text (fun vs H Q E h => ?_) (fun cdv A outer s H vs Q E hr h => ?_)
  · (repeat (obtain ⟨_, h⟩ := h)); subst_vars; rfl
  · have hu := hu_of hr
    have hu64 := hr.units
    refine ⟨_,
      (pss_one
        (ps_ret (pe_m1 PySem.F.slot_str_join PySem.F.type_str_join oJoin pe_str (pe_lc (own := [("_law_k", 2)]) (g := gName 2) rfl sc_l_text.nd (pi_range1 rfl T.f_range (pa_cons (pv 1) pa_nil)) (blkOk_by (N := ["_law_cell", "_law_size", "_law_k"]) (sc := defScope s_l_text) (by decide +kernel)) (fun _ _ _ _ _ => (pg_name (i := 2) sc_l_text.nd rfl (Or.inl rfl))) (fun _ _ _ _ _ => pts_nil) (fun _ _ _ _ _ => (pe_callS (ok_l_sign T) (hr.mono (j := 1) (by decide)) rfl T.g_l_sign T.k_l_sign T.b_l_sign (fun σ => L2N.passAt tk0 σ) (pa_cons (pe_op oIadd (pv 0) (pe_op oImul (pe_op oImul pe_int (pv 2)) (pv 2))) pa_nil))))))), ?_⟩
    obtain ⟨c, n, rfl, h0, h1, k⟩ := h
    repeat wtm_at "k"
    refine l_lcR (by omega) (by omega) (fun i acc _ => ∃ ts : List Str, acc = ts.map V.str ∧ ts.length = i ∧ (∀ t ∈ ts, PyData.strOk t = true) ∧ (ts.map (·.length)).sum = i) ⟨[], rfl, rfl, (fun _ z => by cases z), rfl⟩ (fun _ _ _ _ _ z => z) ?hs ?hq
    case hs =>
      intro i acc H1 R R0 hi e hl ⟨ts, ea, el, ok, sm⟩ q1 q0
      subst ea
      repeat wtm_at "k"
      refine ⟨_, rfl, fun s o1 o2 => ?_⟩
      refine q1 _ _ (Ext.refl _ _) ⟨ts ++ [s], by rw [List.map_append]; rfl, by rw [List.length_append, el]; rfl, fun t m => ?_, ?_⟩
      · rcases List.mem_append.mp m with m | m
        · exact ok t m
        · rw [List.mem_singleton.mp m]; exact o1.ok
      · rw [List.map_append, List.sum_append, sm]; simp [o2]
    case hq =>
      rintro D H' acc hD e hd hl ⟨ts, rfl, el, ok, sm⟩
      refine l_join (SqL.of hd) (by rw [sm]; omega) ?_
      exact k _ _ ⟨ok_join ok, by rw [join_len, sm]; omega⟩ e (by rw [join_len, sm]; omega)
/-- six texts -/
structure PoolAt (H : Hp) (p : Addr) (ts : List Str) : Prop where
  at' : H p = some (.lst (ts.map V.str))
  len : ts.length = 6
  tx : ∀ t ∈ ts, Tx 300 t
  p0 : ∃ t, ts[0]? = some t ∧ 1 ≤ t.length
  lz : ∀ (i : Nat) t, ts[i]? = some t → i ≠ 2 → t.length ≤ 20
theorem PoolAt.ext {H H' : Hp} {p : Addr} {ts : List Str} {F : List Addr} (a : PoolAt H p ts) (e : Ext F H H') (n : p ∉ F) : PoolAt H' p ts := ⟨e.keep _ _ a.at' n, a.len, a.tx, a.p0, a.lz⟩
theorem PoolAt.get {H : Hp} {p : Addr} {ts : List Str} (a : PoolAt H p ts) {n : Int} (h : 0 ≤ n) (l : n < 6) : ∃ t, atI (ts.map V.str) n = some (.str t) ∧ Tx 300 t := by
  obtain ⟨c, ec, mc⟩ := atI_mem (xs := ts.map V.str) h (by rw [List.length_map, a.len]; exact l)
  obtain ⟨t, mt, rfl⟩ := List.mem_map.mp mc
  exact ⟨t, ec, a.tx t mt⟩
def sp_l_pool (K : PySem.W.Frag) : Sp := fun vs H Q _ => ∃ c o, vs = [.int c, .int o] ∧ ∀ p H' ts, H p = none → Ext [] H H' → PoolAt H' p ts → Q (.ref p) H'
theorem sc_l_pool : FnScope ["_law_cell", "_law_other", "_law_first", "_law_one", "_law_two", "_law_at"] ["_law_cell", "_law_other"] (defScope s_l_pool) := ⟨rfl, rfl, rfl, by decide +kernel, rfl, by decide +kernel, by decide +kernel⟩
theorem ok_l_pool (T : FX K mg) : FnOk P w K mg base (L2N.CX P w) 3 (He.ga K "_law_pool") (fdAt K ("_law_pool", none)) ["_law_cell", "_law_other"] (sp_l_pool K) := by
  refine FunD.ok T.F_l_pool sc_l_pool (fun vs H Q E h => ?_) (fun cdv A outer s H vs Q E hr h => ?_)
  · (repeat (obtain ⟨_, h⟩ := h)); subst_vars; rfl
  · have hu := hu_of hr
    have hu64 := hr.units
    refine ⟨_,
      (pss_cons
        (ps_set (i := 2) sc_l_pool.nd rfl (Or.inl rfl) (pe_callS (ok_l_text T) (hr.mono (j := 2) (by decide)) rfl T.g_l_text T.k_l_text T.b_l_text (fun σ => L2N.passAt tkd σ) (pa_cons (pv 0) (pa_cons (pe_ix ix_list (pe_lst (pa_cons (pe_op oIadd pe_int (pe_op oImod (pv 0) pe_int)) (pa_cons (pe_op oIadd pe_int (pe_op oImod (pv 0) pe_int)) pa_nil))) (pe_op oImod (pe_op oIdiv (pv 0) pe_int) pe_int) (fun _ _ => rfl)) pa_nil))))
      (pss_cons
        (ps_set (i := 3) sc_l_pool.nd rfl (Or.inl rfl) (pe_callS (ok_l_sign T) (hr.mono (j := 1) (by decide)) rfl T.g_l_sign T.k_l_sign T.b_l_sign (fun σ => L2N.passAt tkd σ) (pa_cons (pv 1) pa_nil)))
      (pss_cons
        (ps_set (i := 4) sc_l_pool.nd rfl (Or.inl rfl) (pe_callS (ok_l_sign T) (hr.mono (j := 1) (by decide)) rfl T.g_l_sign T.k_l_sign T.b_l_sign (fun σ => L2N.passAt tkd σ) (pa_cons (pe_op oIdiv (pv 1) pe_int) pa_nil)))
      (pss_cons
        (ps_set (i := 5) sc_l_pool.nd rfl (Or.inl rfl) (pe_op oImod (pe_op oIdiv (pv 1) pe_int) (pe_op oIadd (pe_callB oLenX (by rfl) T.f_len PySem.boot_len (pa_cons (pv 2) pa_nil)) pe_int)))
      (pss_one
        (ps_ret (pe_lst (pa_cons (pv 2) (pa_cons (pe_op oSadd (pv 2) (pv 3)) (pa_cons (pe_op oSadd (pe_op oSadd (pe_slice sl_str (pv 2) po_none (po_some (pv 5))) (pv 4)) (pe_slice sl_str (pv 2) (po_some (pv 5)) po_none)) (pa_cons (pv 3) (pa_cons (pe_op oSadd (pv 4) (pv 2)) (pa_cons (pe_callS (ok_l_text T) (hr.mono (j := 2) (by decide)) rfl T.g_l_text T.k_l_text T.b_l_text (fun σ => L2N.passAt tkd σ) (pa_cons (pv 1) (pa_cons (pe_op oIsub pe_int (pe_op oImod (pv 1) pe_int)) pa_nil))) pa_nil))))))))))))), ?_⟩
    obtain ⟨c, o, rfl, k⟩ := h
    have R0 : Run [] H H := Run.start Live.nil
    obtain ⟨d, ed, hd⟩ : ∃ d, atI (([1 + c % 4, 1 + c % 18] : List Int).map V.int) (c / 4 % 2) = some (.int d) ∧ 1 ≤ d ∧ d ≤ 18 := by
      have h : c / 4 % 2 = 0 ∨ c / 4 % 2 = 1 := by omega
      rcases h with h | h <;> rw [h] <;> exact ⟨_, rfl, by omega, by omega⟩
    repeat wtm_at "k"
    refine ⟨c, d, rfl, by omega, by omega, fun first H1 o1 e1 len1 => ?_⟩
    repeat wtm_at "k"
    refine ⟨_, rfl, fun one o2 l2 => ?_⟩
    repeat wtm_at "k"
    refine ⟨_, rfl, fun two o3 l3 => ?_⟩
    repeat wtm_at "k"
    have R3 : Run [] H H1 := Run.same (by assumption) e1
    refine ⟨_, _, rfl, by omega, by omega, fun last H4 o4 e4 len4 => ?_⟩
    have R4 := R3.same e4
    repeat wtm_at "k"
    rename_i p H5 f1 f2 f3 r5 h5 s5
    refine k p H5 [first, first ++ one, cutS first none (some (o / 8836 % (first.length + 1))) ++ two ++ cutS first (some (o / 8836 % (first.length + 1))) none, one, two ++ first, last] f1 (Run.ext (by assumption)) ⟨h5, rfl, ?_, ⟨first, rfl, by omega⟩, ?_⟩
    · intro t ht
      simp only [List.mem_cons, List.not_mem_nil, or_false] at ht
      rcases ht with rfl | rfl | rfl | rfl | rfl | rfl <;> exact Tx.mono (by wtm_at "tx") (by decide)
    · intro i t e n2
      match i, e, n2 with
      | 0, e, _ => rw [← Option.some.inj (show some _ = some t from e)]; omega
      | 1, e, _ => rw [← Option.some.inj (show some _ = some t from e), len_app]; omega
      | 2, e, n2 => exact absurd rfl n2
      | 3, e, _ => rw [← Option.some.inj (show some _ = some t from e)]; omega
      | 4, e, _ => rw [← Option.some.inj (show some _ = some t from e), len_app]; omega
      | 5, e, _ => rw [← Option.some.inj (show some _ = some t from e)]; omega
      | i + 6, e, _ => cases e
def sp_l_prefix (K : PySem.W.Frag) : Sp := fun vs H Q _ => ∃ p ts c, vs = [.ref p, .int c] ∧ PoolAt H p ts ∧ ∀ s H', Tx 20 s → Ext [] H H' → Q (.str s) H'
theorem sc_l_prefix : FnScope ["_law_pool_here", "_law_cell"] ["_law_pool_here", "_law_cell"] (defScope s_l_prefix) := ⟨rfl, rfl, rfl, by decide +kernel, rfl, by decide +kernel, by decide +kernel⟩
theorem ok_l_prefix (T : FX K mg) : FnOk P w K mg base (L2N.CX P w) 1 (He.ga K "_law_prefix") (fdAt K ("_law_prefix", none)) ["_law_pool_here", "_law_cell"] (sp_l_prefix K) := by
  refine FunD.ok T.F_l_prefix sc_l_prefix (fun vs H Q E h => ?_) (fun cdv A outer s H vs Q E hr h => ?_)
  · (repeat (obtain ⟨_, h⟩ := h)); subst_vars; rfl
  · have hu := hu_of hr
    have hu64 := hr.units
    refine ⟨_,
      (pss_one
        (ps_ret (pe_ix ix_list (pe_lst (pa_cons pe_str (pa_cons pe_str (pa_cons (pe_ix ix_list (pv 0) pe_int (fun _ _ => rfl)) (pa_cons (pe_ix ix_list (pv 0) pe_int (fun _ _ => rfl)) (pa_cons (pe_ix ix_list (pv 0) pe_int (fun _ _ => rfl)) (pa_cons (pe_slice sl_str (pe_ix ix_list (pv 0) pe_int (fun _ _ => rfl)) po_none (po_some pe_int)) (pa_cons (pe_ix ix_list (pv 0) pe_int (fun _ _ => rfl)) pa_nil)))))))) (pe_op oImod (pv 1) pe_int) (fun _ _ => rfl)))), ?_⟩
    obtain ⟨p, ts, c, rfl, ⟨hp, hl, ht, _, lz⟩, k⟩ := h
    have R0 : Run [] H H := Run.start Live.nil
    match ts, hl, ht, hp, lz with
    | [t0, t1, t2, t3, t4, t5], _, ht, hp, lz =>
      have x0 : Tx 20 t0 := ⟨(ht t0 (by simp)).ok, lz 0 t0 rfl (by decide)⟩
      have x1 : Tx 20 t1 := ⟨(ht t1 (by simp)).ok, lz 1 t1 rfl (by decide)⟩
      have x3 : Tx 20 t3 := ⟨(ht t3 (by simp)).ok, lz 3 t3 rfl (by decide)⟩
      have x4 : Tx 20 t4 := ⟨(ht t4 (by simp)).ok, lz 4 t4 rfl (by decide)⟩
      have x5 : Tx 20 t5 := ⟨(ht t5 (by simp)).ok, lz 5 t5 rfl (by decide)⟩
      repeat wtm_at "k"
      obtain ⟨s, es, hs⟩ : ∃ s, atI [V.str Str.empty, V.str Str.empty, V.str t0, V.str t3, V.str t1, V.str (cutS t4 none (some 1)), V.str t5] (c % 7) = some (.str s) ∧ Tx 20 s := by
        have h : c % 7 = 0 ∨ c % 7 = 1 ∨ c % 7 = 2 ∨ c % 7 = 3 ∨ c % 7 = 4 ∨ c % 7 = 5 ∨ c % 7 = 6 := by omega
        rcases h with h | h | h | h | h | h | h <;> rw [h] <;> exact ⟨_, rfl, Tx.mono (by wtm_at "tx") (by decide)⟩
      refine l_ixL (by wtm_at "sq") es ?_
      exact k _ _ hs (Run.ext (by assumption))
def sp_l_pairs (K : PySem.W.Frag) : Sp := fun vs H Q _ => ∃ f d ys zs rs, vs = [.ref f, .ref d] ∧ H f = some (.lst ys) ∧ SqL K H d zs ∧ Paired (IsS H) ys rs ∧ Paired (IsS H) zs rs ∧ ∀ H', Ext [f] H H' → H' f = some (.lst []) → Q (.bl true) H'
theorem sc_l_pairs : FnScope ["_law_found", "_law_due", "_law_one", "_law_good"] ["_law_found", "_law_due"] (defScope s_l_pairs) := ⟨rfl, rfl, rfl, by decide +kernel, rfl, by decide +kernel, by decide +kernel⟩
theorem ok_l_pairs (T : FX K mg) : FnOk P w K mg base (L2N.CX P w) 1 (He.ga K "_law_pairs") (fdAt K ("_law_pairs", none)) ["_law_found", "_law_due"] (sp_l_pairs K) := by
  refine FunD.ok T.F_l_pairs sc_l_pairs (fun vs H Q E h => ?_) (fun cdv A outer s H vs Q E hr h => ?_)
  · (repeat (obtain ⟨_, h⟩ := h)); subst_vars; rfl
  · have hu := hu_of hr
    have hu64 := hr.units
    refine ⟨_,
      (pss_cons
        (ps_if (PW.pt (pw_or (pt_not (pt_val (pe_callB call_isi (by rfl) T.f_isinstance (by decide +kernel) (pa_cons (pv 0) (pa_cons (pe_bltT (n := "list") rfl T.f_list (by decide +kernel)) pa_nil))))) (pw_or1 (pt_cmpR oIne (pe_callB oLen (by rfl) T.f_len PySem.boot_len (pa_cons (pv 0) pa_nil)) (pe_callB oLen (by rfl) T.f_len PySem.boot_len (pa_cons (pv 1) pa_nil)) (nomark _)))))
          (pss_one
            (ps_ret pe_bl))
          pss_nil)
      (pss_cons
        (ps_for pod rfl (pi_list (pv 0)) (pg_name (i := 2) sc_l_pairs.nd rfl (Or.inl rfl))
          (pss_cons
            (ps_if (PW.pt (pw_or (pt_not (pt_val (pe_callB call_isi (by rfl) T.f_isinstance (by decide +kernel) (pa_cons (pv 2) (pa_cons (pe_bltT (n := "tuple") rfl T.f_tuple (by decide +kernel)) pa_nil))))) (pw_or1 (pt_cmpR oIne (pe_callB oLen (by rfl) T.f_len PySem.boot_len (pa_cons (pv 2) pa_nil)) pe_int (nomark _)))))
              (pss_one
                (ps_ret pe_bl))
              pss_nil)
          (pss_one
            (ps_if (PW.pt (pw_or (pt_not (pt_val (pe_callB call_isi (by rfl) T.f_isinstance (by decide +kernel) (pa_cons (pe_ix ix_tup (pv 2) pe_int (fun _ _ => rfl)) (pa_cons (pe_bltT (n := "str") rfl T.f_str (by decide +kernel)) pa_nil))))) (pw_or1 (pt_not (pt_val (pe_callB call_isi (by rfl) T.f_isinstance (by decide +kernel) (pa_cons (pe_ix ix_tup (pv 2) pe_int (fun _ _ => rfl)) (pa_cons (pe_bltT (n := "str") rfl T.f_str (by decide +kernel)) pa_nil))))))))
              (pss_one
                (ps_ret pe_bl))
              pss_nil))))
      (pss_cons
        (ps_set (i := 3) sc_l_pairs.nd rfl (Or.inl rfl) (pe_cmpR (op_eqD hu64) (pv 0) (pv 1) (nomark _)))
      (pss_cons
        (ps_expr (pe_bm0 PySem.F.plainAttrs_list PySem.F.slot_list_clear PySem.F.type_list_clear mt_clear (pv 0)))
      (pss_one
        (ps_ret (pv 3))))))), ?_⟩
    obtain ⟨f, d, ys, zs, rs, rfl, hf, hd, py, pz, k⟩ := h
    have R0 : Run [f] H H := Run.start (by wtm_at "lv")
    have len : ys.length = zs.length := by rw [Paired.length py, Paired.length pz]
    repeat wtm_at "k"
    refine k_ifnd (fun c => absurd (congrArg Nat.cast len) c) fun _ => ?_
    repeat wtm_at "k"
    refine l_for (xs := ys) (SqL.of hf) (fun i σ' H4 => H4 = H ∧ ∃ v2, σ' = [some (.ref f), some (.ref d), v2, none]) ⟨rfl, _, rfl⟩ (fun i σ' H4 _ q => by rw [q.1]; exact SqL.of hf) (fun i x σ' H4 ex q => ?_) fun σ' H4 q => ?_
    · obtain ⟨rfl, v2, rfl⟩ := q
      obtain ⟨r, er, hr⟩ := getT py ex
      obtain ⟨t, rfl, ht⟩ := hr
      repeat wtm_at "k"
      refine k_ifnd (fun z => absurd (show ((2 : Nat) : Int) = 2 from rfl) z) fun _ => ?_
      repeat wtm_at "k"
      exact ⟨rfl, _, rfl⟩
    · obtain ⟨rfl, v2, rfl⟩ := q
      repeat wtm_at "k"
      refine l_eqT fS_plain (by wtm_at "sq") (by wtm_at "sq") py pz ?_
      repeat wtm_at "k"
      exact k _ (Run.ext (by assumption)) (by wtm_at "hf")
end
end LW

set_option maxHeartbeats 4000000
namespace LW
open PySem PySem.Spec PyProof.Rows L2
local macro_rules | `(tactic| wtm_at "vk") => `(tactic| first
  | assumption
  | with_reducible exact rv_mf_given
  | with_reducible exact rv_mf_free
  | exact valV_sv (by assumption)
  | exact valV_iv (by assumption)
  | fail)
local macro_rules | `(tactic| wtm_at "pk") => `(tactic| first
  | with_reducible exact putK_iv
  | with_reducible exact dropK_ik
  | with_reducible exact dropK_sk
  | with_reducible exact rp_mf_given
  | with_reducible exact rp_mf_free
  | exact putK_sv
  | assumption
  | fail)
local macro_rules | `(tactic| wtm_at "rm") => `(tactic| first
  | with_reducible exact rm_mf
  | exact rfl
  | fail)
local macro_rules | `(tactic| wtm_at "rl") => `(tactic| first
  | with_reducible exact rl_mf
  | with_reducible assumption
  | fail)
local macro_rules | `(tactic| wtm_at "lk") => `(tactic| with_reducible first
  | exact lk_Ear_behind
  | exact lk_Ear_begun
  | exact lk_Ear_rows
  | exact lk_Line_room
  | exact lk_Line_watcher
  | exact lk_Line_ear
  | exact lk_Leases_given
  | exact lk_Leases_spans
  | exact lk_Leases_ends
  | exact lk_Log_rows
  | exact lk_Log_gone
  | exact lk_Watcher_prefix
  | exact lk_Watcher_had
  | exact lk_Watcher_told
  | exact lk_Room_now
  | exact lk_Room_leases
  | exact lk_Room_log
  | exact lk_Room_kept
  | exact lk_Room_watchers
  | exact lk_Room_met
  | fail)
local macro_rules | `(tactic| wtm_at "lm") => `(tactic| with_reducible first
  | exact lm_Ear_hear
  | exact lm_Ear_heard
  | exact lm_Ear_state
  | exact lm_Line_turn
  | exact lm_Leases_grant
  | exact lm_Leases_need
  | exact lm_Leases_renew
  | exact lm_Leases_drop
  | exact lm_Leases_due
  | exact lm_Log_note
  | exact lm_Log_last
  | exact lm_Log_first
  | exact lm_Log_wanted
  | exact lm_Log_forget
  | exact lm_Room_grant
  | exact lm_Room_renew
  | exact lm_Room_drop
  | exact lm_Room_wait
  | exact lm_Room_free
  | exact lm_Room_put
  | exact lm_Room_cut
  | exact lm_Room_value
  | exact lm_Room_holder
  | exact lm_Room_pairs
  | exact lm_Room_last
  | exact lm_Room_first
  | exact lm_Room_watch
  | exact lm_Room_need
  | exact lm_Room_pull
  | exact lm_Room_confirm
  | exact lm_Room_broken
  | exact lm_Room_leave
  | exact lm_Room_trim
  | fail)
local macro_rules | `(tactic| wtm_at "pt") => `(tactic| with_reducible first
  | exact pt_Ear_behind
  | exact pt_Ear_begun
  | exact pt_Ear_rows
  | exact pi_Ear_0
  | exact pi_Ear_1
  | exact pi_Ear_2
  | exact pt_Line_room
  | exact pt_Line_watcher
  | exact pt_Line_ear
  | exact pi_Line_0
  | exact pi_Line_1
  | exact pi_Line_2
  | exact pt_Leases_given
  | exact pt_Leases_spans
  | exact pt_Leases_ends
  | exact pi_Leases_0
  | exact pi_Leases_1
  | exact pi_Leases_2
  | exact pt_Log_rows
  | exact pt_Log_gone
  | exact pi_Log_0
  | exact pi_Log_1
  | exact pt_Watcher_prefix
  | exact pt_Watcher_had
  | exact pt_Watcher_told
  | exact pi_Watcher_0
  | exact pi_Watcher_1
  | exact pi_Watcher_2
  | exact pt_Room_now
  | exact pt_Room_leases
  | exact pt_Room_log
  | exact pt_Room_kept
  | exact pt_Room_watchers
  | exact pt_Room_met
  | exact pi_Room_0
  | exact pi_Room_1
  | exact pi_Room_2
  | exact pi_Room_3
  | exact pi_Room_4
  | exact pi_Room_5
  | fail)
local macro_rules | `(tactic| wtm_at "lz") => `(tactic| with_reducible first
  | exact lz_Ear
  | exact lz_Line
  | exact lz_Leases
  | exact lz_Log
  | exact lz_Watcher
  | exact lz_Room
  | (simp only [List.length_cons, List.length_nil]; decide)
  | exact (by decide)
  | fail)
local macro_rules | `(tactic| wtm_at "hf") => `(tactic| first
  | assumption
  | (refine' hf_s ?hs ?hx; (case hs => assumption); (case hx => wtm_at "hf"))
  | (refine' hf_n ?hs ?hx ?ne; (case hs => assumption); (case hx => wtm_at "hf"); (case ne => wtm_at "ne"))
  | (refine' hf_e ?hs ?hx ?hy; (case hs => assumption); (case hx => wtm_at "hf"); (case hy => wtm_at "nin"))
  | fail)
local macro_rules | `(tactic| wtm_at "ne") => `(tactic| first
  | assumption
  | (apply Ne.symm; assumption)
  | (refine' ne_of_none ?hx ?hy; (case hy => assumption); (case hx => wtm_at "hf"))
  | (refine' (ne_of_none ?hx ?hy).symm; (case hy => assumption); (case hx => wtm_at "hf"))
  | (refine' ne_of ?hx ?hy ?hz; (case hx => assumption); (case hy => assumption); (case hz => intro z; cases z))
  | fail)
local macro_rules | `(tactic| wtm_at "nin") => `(tactic| first
  | assumption
  | exact notin_nil
  | (refine' notin_cons ?hx ?hy; (case hx => wtm_at "ne"); (case hy => wtm_at "nin"))
  | fail)
local macro_rules | `(tactic| wtm_at "mem") => `(tactic| first
  | assumption
  | exact List.mem_cons_self
  | (refine' List.mem_cons_of_mem _ ?hx; (case hx => wtm_at "mem"))
  | fail)
local macro_rules | `(tactic| wtm_at "wr") => `(tactic| first
  | exact Or.inr (by assumption)
  | exact Or.inl (by wtm_at "mem")
  | fail)
local macro_rules | `(tactic| wtm_at "lv") => `(tactic| first
  | assumption
  | exact Live.nil
  | (refine' Live.cons ?hx ?hy; (case hx => wtm_at "hf"); (case hy => wtm_at "lv"))
  | fail)
local macro_rules | `(tactic| wtm_at "run") => `(tactic| first
  | assumption
  | (refine' Run.same ?hx ?hy; (case hy => assumption); (case hx => wtm_at "run"))
  | fail)
local macro_rules | `(tactic| wtm_at "sq") => `(tactic| first
  | assumption
  | (refine' Run.seq ?hx ?hy; (case hx => assumption); (case hy => assumption))
  | (refine' SqL.of ?hx; (case hx => wtm_at "hf"))
  | (refine' Same.seq ?hx ?hy; (case hx => assumption); (case hy => wtm_at "sq"))
  | (refine' Ext.seqL ?hx ?hz ?hy; (case hx => assumption); (case hy => wtm_at "sq"); (case hz => wtm_at "nin"))
  | fail)
local macro_rules | `(tactic| wtm_at "st") => `(tactic| first
  | assumption
  | (refine' SqT.of ?hx; (case hx => wtm_at "hf"))
  | fail)
local macro_rules | `(tactic| wtm_at "ix") => `(tactic| first
  | assumption
  | exact rfl
  | fail)
local macro_rules | `(tactic| wtm_at "sz") => `(tactic| first
  | wtm_at "rl"
  | with_reducible assumption
  | (rw [ik_len]; wtm_at "sz")
  | (rw [sk_len]; wtm_at "sz")
  | exact smallM (by assumption)
  | exact smallM (by omega)
  | exact smallM (by simp only [List.length_cons, List.length_nil, List.length_append, List.length_map]; omega)
  | fail)
local macro_rules | `(tactic| wtm_at "tx") => `(tactic| first
  | assumption
  | ((with_reducible refine' Tx.app ?hx ?hy); (case hx => wtm_at "tx"); (case hy => wtm_at "tx"))
  | ((with_reducible refine' Tx.cut ?hx); (case hx => wtm_at "tx"))
  | with_reducible exact Tx.nil
  | fail)
local macro_rules | `(tactic| wtm_at "k") => `(tactic| first
  | with_reducible refine k_seq ?_
  | with_reducible refine k_next ?_
  | with_reducible refine k_asg ?_
  | with_reducible refine k_ret ?_
  | with_reducible refine k_retN ?_
  | with_reducible refine k_asgS ?_
  | ((with_reducible refine' l_setL ?hr ?hx ?he ?h2 ?hw ?_); (case hr => wtm_at "run"); (case hx => wtm_at "hf"); (case he => exact rfl); (case h2 => exact rfl); (case hw => wtm_at "wr"); intro _ _ _ _)
  | with_reducible refine k_minD ?_
  | with_reducible refine k_drop ?_
  | with_reducible refine k_ifS ?_
  | ((with_reducible refine' k_var ?hx ?_); (case hx => exact rfl))
  | with_reducible refine k_c ?_
  | with_reducible refine k_negc ?_
  | with_reducible refine k_neg ?_
  | with_reducible refine l_neg ?_
  | with_reducible refine k_op ?_
  | with_reducible refine k_cb ?_
  | with_reducible refine k_nil ?_
  | with_reducible refine k_cons ?_
  | with_reducible refine k_test ?_
  | with_reducible refine k_B ?_
  | with_reducible refine k_not ?_
  | with_reducible refine k_and ?_
  | with_reducible refine k_or ?_
  | with_reducible refine k_notV ?_
  | with_reducible refine k_andV ?_
  | with_reducible refine k_orV ?_
  | with_reducible refine k_bl ?_
  | with_reducible refine k_add ?_
  | with_reducible refine k_sub ?_
  | ((with_reducible refine' k_mod ?hx ?_); (case hx => first | decide | omega))
  | ((with_reducible refine' k_div ?hx ?_); (case hx => first | exact ⟨by decide, by decide⟩ | exact ⟨by omega, by omega⟩))
  | ((with_reducible refine' k_mul ?hx ?_); (case hx => first | exact Or.inl ⟨by decide, by decide⟩ | exact Or.inr ⟨by decide, by decide⟩ | exact Or.inl ⟨by omega, by omega⟩))
  | with_reducible refine k_chain ?_
  | with_reducible refine k_p6 ?_
  | with_reducible refine k_p9 ?_
  | with_reducible refine k_p12 ?_
  | with_reducible refine k_p13 ?_
  | with_reducible refine k_p18 ?_
  | with_reducible refine k_p30 ?_
  | with_reducible refine k_lt ?_
  | with_reducible refine k_le ?_
  | with_reducible refine k_gt ?_
  | with_reducible refine k_ge ?_
  | with_reducible refine k_eq ?_
  | with_reducible refine k_ne ?_
  | with_reducible refine k_seqS ?_
  | with_reducible refine k_neS ?_
  | with_reducible refine k_neB ?_
  | with_reducible refine k_isN ?_
  | with_reducible refine k_noN ?_
  | with_reducible refine k_fld ?_
  | ((with_reducible refine' l_fld ?hx ?hy ?_); (case hx => wtm_at "hf"); (case hy => wtm_at "lk"))
  | with_reducible refine k_fldS ?_
  | ((with_reducible refine' l_fldS ?hr ?hx ?hz ?hy ?hw ?_); (case hr => wtm_at "run"); (case hx => wtm_at "hf"); (case hy => wtm_at "pt"); (case hz => wtm_at "lz"); (case hw => wtm_at "wr"); intro _ _ _ _)
  | ((with_reducible refine' l_new ?hr ?_); (case hr => wtm_at "run"); intro _ _ _ _ _ _ _ _)
  | with_reducible refine k_append ?_
  | ((with_reducible refine' l_tyL ?hx ?_); (case hx => wtm_at "hf"))
  | ((with_reducible refine' l_ins ?hx ?hy ?_); (case hx => wtm_at "hf"); (case hy => wtm_at "lm"))
  | with_reducible refine k_methS ?_
  | with_reducible refine k_methG ?_
  | with_reducible refine k_makeG ?_
  | with_reducible refine k_meth0 ?_
  | with_reducible refine k_callS ?_
  | with_reducible refine k_callE ?_
  | with_reducible refine k_dget ?_
  | with_reducible refine k_din ?_
  | with_reducible refine k_dnotin ?_
  | with_reducible refine k_dput ?_
  | with_reducible refine k_dpop ?_
  | with_reducible refine k_dget2 ?_
  | with_reducible refine k_tup ?_
  | with_reducible refine k_lst ?_
  | with_reducible refine k_dnew ?_
  | ((with_reducible refine' l_tup ?hx ?_); (case hx => simp only [List.length_cons, List.length_nil]; decide))
  | ((with_reducible refine' l_lst ?hx ?_); (case hx => simp only [List.length_cons, List.length_nil]; decide))
  | ((with_reducible refine' l_isD ?hx ?_); (case hx => wtm_at "hf"))
  | ((with_reducible refine' l_dinI ?hx ?_); (case hx => wtm_at "hf"))
  | ((with_reducible refine' l_dinS ?hx ?_); (case hx => wtm_at "hf"))
  | ((with_reducible refine' l_dnotinI ?hx ?_); (case hx => wtm_at "hf"))
  | ((with_reducible refine' l_dnotinS ?hx ?_); (case hx => wtm_at "hf"))
  | ((with_reducible refine' l_dputI ?hr ?hx ?hz ?hy ?hw ?_); (case hr => wtm_at "run"); (case hx => wtm_at "hf"); (case hy => wtm_at "pk"); (case hz => wtm_at "sz"); (case hw => wtm_at "wr"); intro _ _ _ _)
  | ((with_reducible refine' l_dputS ?hr ?hx ?hz ?hy ?hw ?_); (case hr => wtm_at "run"); (case hx => wtm_at "hf"); (case hy => wtm_at "pk"); (case hz => wtm_at "sz"); (case hw => wtm_at "wr"); intro _ _ _ _)
  | ((with_reducible refine' l_dpopI ?hr ?hx ?hz ?hy ?hw ?_); (case hr => wtm_at "run"); (case hx => wtm_at "hf"); (case hy => wtm_at "pk"); (case hz => wtm_at "vk"); (case hw => wtm_at "wr"); intro _ _ _ _)
  | ((with_reducible refine' l_dpopS ?hr ?hx ?hz ?hy ?hw ?_); (case hr => wtm_at "run"); (case hx => wtm_at "hf"); (case hy => wtm_at "pk"); (case hz => wtm_at "vk"); (case hw => wtm_at "wr"); intro _ _ _ _)
  | ((with_reducible refine' l_dgetI ?hx ?hz ?_); (case hx => wtm_at "hf"); (case hz => wtm_at "vk"))
  | ((with_reducible refine' l_dgetS ?hx ?hz ?_); (case hx => wtm_at "hf"); (case hz => wtm_at "vk"))
  | ((with_reducible refine' l_dgetIF ?hx ?hz ?_); (case hx => wtm_at "hf"); (case hz => wtm_at "vk"))
  | ((with_reducible refine' l_dgetSF ?hx ?hz ?_); (case hx => wtm_at "hf"); (case hz => wtm_at "vk"))
  | ((with_reducible refine' l_dgetZ ?hx ?hz ?_); (case hx => wtm_at "hf"); (case hz => wtm_at "vk"))
  | ((with_reducible refine' k_disp ?hr ?_); (case hr => wtm_at "run"); intro _ _ _ _ _ _ _ _)
  | with_reducible refine k_pcons ?_
  | with_reducible refine k_pnil ?_
  | ((with_reducible refine' l_disp ?hr ?hx ?hu ?hv ?hy ?hw ?_); (case hr => wtm_at "run"); (case hx => wtm_at "hf"); (case hu => exact rfl); (case hv => simp only [List.length_map, List.length_cons, List.length_nil]; decide); (case hy => wtm_at "rm"); (case hw => wtm_at "wr"); intro _ _ _ _)
  | ((with_reducible refine' l_append ?hr ?hx ?hz ?hw ?_); (case hr => wtm_at "run"); (case hx => wtm_at "hf"); (case hz => wtm_at "sz"); (case hw => wtm_at "wr"); intro _ _ _ _)
  | ((with_reducible refine' l_isEt ?hx ?_); (case hx => first | exact isD (ExcK.kit (by assumption) _ (by wtm_at "mem") _ (by wtm_at "mem")) | exact isC (ExcK.kit (by assumption) _ (by wtm_at "mem") _ (by wtm_at "mem")) (by decide)))
  | ((with_reducible refine' l_isEV ?hx ?_); (case hx => exact ExcK.kitV (by assumption) _ (by wtm_at "mem")))
  | ((with_reducible refine' l_isiI ?hx ?_); (case hx => first | rfl | assumption))
  | ((with_reducible refine' l_isiB ?hx ?_); (case hx => first | rfl | assumption))
  | with_reducible refine l_isiSS ?_
  | ((with_reducible refine' l_isiS ?hx ?_); (case hx => first | rfl | assumption))
  | ((with_reducible refine' l_isiL ?hx ?_); (case hx => wtm_at "hf"))
  | ((with_reducible refine' l_isiO ?hx ?hy ?hz ?_); (case hx => wtm_at "hf"); (case hy => assumption); (case hz => assumption))
  | ((with_reducible refine' l_isiT ?hx ?_); (case hx => wtm_at "hf"))
  | ((with_reducible refine' l_lenL ?hx ?_); (case hx => wtm_at "sq"))
  | ((with_reducible refine' l_lenT ?hx ?_); (case hx => wtm_at "st"))
  | ((with_reducible refine' l_lenDK ?hx ?_); (case hx => wtm_at "hf"))
  | ((with_reducible refine' l_ixL ?hx ?hy ?_); (case hx => wtm_at "sq"); (case hy => wtm_at "ix"))
  | ((with_reducible refine' l_ixT ?hx ?hy ?_); (case hx => wtm_at "st"); (case hy => wtm_at "ix"))
  | with_reducible refine k_m1 ?_
  | with_reducible refine l_strX ?_
  | with_reducible refine l_sw ?_
  | ((with_reducible refine' x_addS ?hx ?hy ?hz ?_); (case hx => wtm_at "tx"); (case hy => wtm_at "tx"); (case hz => decide))
  | ((with_reducible refine' x_slS ?hx ?hz ?_); (case hx => wtm_at "tx"); (case hz => decide))
  | ((with_reducible refine' x_lenX ?hx ?hz ?_); (case hx => wtm_at "tx"); (case hz => decide))
  | with_reducible refine l_max ?_
  | with_reducible refine l_min ?_
  | with_reducible refine l_abs ?_
  | with_reducible refine k_sl ?_
  | with_reducible refine k_part ?_
  | with_reducible refine l_part ?_
  | with_reducible refine k_nopart ?_
  | with_reducible refine k_yes ?_
  | ((with_reducible refine' l_slL ?hr ?hx ?_); (case hr => wtm_at "run"); (case hx => wtm_at "sq"); intro _ _ _ _ _ _ _ _)
  | with_reducible refine k_lcL ?_
  | with_reducible refine k_lcR ?_
  | with_reducible refine k_for ?_
  | with_reducible refine k_zip ?_
  | with_reducible refine k_rng1 ?_
  | with_reducible refine k_rng2 ?_
  | with_reducible refine k_rng3 ?_
  | with_reducible refine k_makeS ?_
  | ((with_reducible refine' l_make ?hr ?_); (case hr => wtm_at "run"); intro _ _ _ _ _ _ _ _ _)
  | with_reducible refine k_ntt ?_
  | with_reducible refine k_ntf ?_
  | with_reducible refine k_clear ?_
  | ((with_reducible refine' l_clear ?hr ?hx ?hw ?_); (case hr => wtm_at "run"); (case hx => wtm_at "hf"); (case hw => wtm_at "wr"); intro _ _ _ _)
  | with_reducible refine k_ift ?_
  | with_reducible refine k_iff ?_
  | with_reducible refine g_name ?_
  | with_reducible refine k_revL ?_
  | ((with_reducible refine' l_tupL ?hx ?_); (case hx => wtm_at "sq"))
  | with_reducible refine l_intB ?_
  | ((with_reducible refine' l_rev ?hx ?_); (case hx => wtm_at "sq"))
  | ((with_reducible refine' l_gT2 ?hn ?hx ?_); (case hn => exact rfl); (case hx => wtm_at "st"))
  | ((with_reducible refine' l_listL ?hx ?_); (case hx => wtm_at "sq"))
  | ((with_reducible refine' l_listT ?hx ?_); (case hx => wtm_at "st"))
  | fail)
/-! ### the room -/
structure WatS where
  pre : Str
  px : Tx 1000 pre
  had : Int
  told : Int
structure RoomS where
  now : Int
  L : LS
  G : LogS
  kept : List (Str × (Str × Int))
  ws : List (Int × WatS)
  met : Int
inductive RP where
  | me | le | lo | ke | wa
  deriving DecidableEq
structure RAd where
  pl : Addr
  pg : Addr
  pk : Addr
  pw : Addr
def OkK (kept : List (Str × (Str × Int))) : Prop := ∀ p ∈ kept, Tx 1000 p.1 ∧ Tx 1000 p.2.1
abbrev aw : Int → Addr → V := fun _ a => .ref a
def WatAt (K : PySem.W.Frag) (H : Hp) (a : Int × Addr) (b : Int × WatS) : Prop := a.1 = b.1 ∧ ∃ dx, H a.2 = some (.ins (He.ga K "Watcher") dx (fl_Watcher (.str b.2.pre) (.int b.2.had) (.int b.2.told)))
theorem WatAt.lv {K : PySem.W.Frag} {H : Hp} {a : Int × Addr} {b : Int × WatS} (h : WatAt K H a b) : ∃ o, H a.2 = some o := let ⟨_, dx, e⟩ := h; ⟨_, e⟩
theorem WatAt.mv {K : PySem.W.Frag} {H H' : Hp} {G : List Addr} {a : Int × Addr} {b : Int × WatS} (h : WatAt K H a b) (e : Ext G H H') (n : a.2 ∉ G) : WatAt K H' a b := let ⟨e1, dx, e2⟩ := h; ⟨e1, dx, e.keep _ _ e2 n⟩
def meTh (K : PySem.W.Frag) (p : Addr) (X : RAd) (now met : Int) : Thing where
  At := fun H F => F = [p] ∧ ∃ dx, H p = some (.ins (He.ga K "Room") dx (fl_Room (.int now) (.ref X.pl) (.ref X.pg) (.ref X.pk) (.ref X.pw) (.int met)))
  ext := fun ⟨e0, dx, h⟩ e a => by subst e0; exact ⟨rfl, dx, e.keep _ _ h (a _ (by simp))⟩
  live := fun ⟨e0, dx, h⟩ => by subst e0; exact Live.cons h Live.nil
def leTh (K : PySem.W.Frag) (pl : Addr) (L : LS) : Thing where
  At := fun H F => ∃ ps pe, F = [pl, ps, pe] ∧ LeasesAt K H pl ps pe L
  ext := fun ⟨ps, pe, e0, h⟩ e a => by subst e0; exact ⟨ps, pe, rfl, h.ext e (a _ (by simp)) (a _ (by simp)) (a _ (by simp))⟩
  live := fun ⟨ps, pe, e0, h⟩ => by
    subst e0
    obtain ⟨⟨dx, h1⟩, h2, h3, _⟩ := h
    exact Live.cons h1 (Live.cons h2 (Live.cons h3 Live.nil))
def loTh (K : PySem.W.Frag) (pg : Addr) (G : LogS) : Thing where
  At := fun H F => LogAt K H pg F G
  ext := fun h e a => h.ext e a
  live := fun h => h.live
def keTh (pk : Addr) (kept : List (Str × (Str × Int))) : Thing where
  At := fun H F => F = [pk] ∧ OkK kept ∧ ∃ kl, H pk = some (.dK (sk vv kl)) ∧ Paired (KeyIs fKV H) kl kept
  ext := fun ⟨e0, ok, kl, h1, h2⟩ e a => by subst e0; exact ⟨rfl, ok, kl, e.keep _ _ h1 (a _ (by simp)), keepK e.tups h2⟩
  live := fun ⟨e0, ok, kl, h1, h2⟩ => by subst e0; exact Live.cons h1 Live.nil
theorem watAt_live {K : PySem.W.Frag} {H : Hp} {wl : List (Int × Addr)} {ws : List (Int × WatS)} (h : Paired (WatAt K H) wl ws) : Live H (wl.map (·.2)) := by
  induction h with
  | nil => exact Live.nil
  | cons a t ih =>
    obtain ⟨o, e⟩ := WatAt.lv a
    exact Live.cons e ih
theorem watAt_ext {K : PySem.W.Frag} {H H' : Hp} {G : List Addr} {wl : List (Int × Addr)} {ws : List (Int × WatS)} (h : Paired (WatAt K H) wl ws) (e : Ext G H H') (a : Apart (wl.map (·.2)) G) : Paired (WatAt K H') wl ws := by
  induction h with
  | nil => exact .nil
  | cons x t ih =>
    exact .cons (WatAt.mv x e (a _ (by simp))) (ih fun c hc => a c (by rw [List.map_cons]; exact List.mem_cons_of_mem _ hc))
def waTh (K : PySem.W.Frag) (pw : Addr) (ws : List (Int × WatS)) : Thing where
  At := fun H F => ∃ wl : List (Int × Addr), F = pw :: wl.map (·.2) ∧ H pw = some (.dK (ik aw wl)) ∧ F.Nodup ∧ Paired (WatAt K H) wl ws
  ext := fun ⟨wl, e0, h1, h2, h3⟩ e a => by
    subst e0
    exact ⟨wl, rfl, e.keep _ _ h1 (a _ (by simp)), h2, watAt_ext h3 e fun c hc => a c (List.mem_cons_of_mem _ hc)⟩
  live := fun ⟨wl, e0, h1, h2, h3⟩ => by
    subst e0
    exact Live.cons h1 (watAt_live h3)
def prt (K : PySem.W.Frag) (p : Addr) (X : RAd) (R : RoomS) : RP → Thing
  | .me => meTh K p X R.now R.met
  | .le => leTh K X.pl R.L
  | .lo => loTh K X.pg R.G
  | .ke => keTh X.pk R.kept
  | .wa => waTh K X.pw R.ws
def flat (F : RP → List Addr) : List Addr := F .me ++ (F .le ++ (F .lo ++ (F .ke ++ F .wa)))
theorem mem_flat {F : RP → List Addr} {i : RP} {c : Addr} (h : c ∈ F i) : c ∈ flat F := by
  unfold flat
  simp only [List.mem_append]
  cases i <;> simp [h]
theorem flat_mem {F : RP → List Addr} {c : Addr} (h : c ∈ flat F) : ∃ i, c ∈ F i := by
  unfold flat at h
  simp only [List.mem_append] at h
  rcases h with h | h | h | h | h
  · exact ⟨.me, h⟩
  · exact ⟨.le, h⟩
  · exact ⟨.lo, h⟩
  · exact ⟨.ke, h⟩
  · exact ⟨.wa, h⟩
/-- the empty heap: nothing is asked of what was before -/
def noHp : Hp := fun _ => none
theorem ext_noHp {H : Hp} : Ext [] noHp H := ⟨fun _ _ h _ => (by cases h), fun _ _ h => (by cases h)⟩
abbrev RIn (K : PySem.W.Frag) (p : Addr) (X : RAd) (R : RoomS) (H : Hp) (F : RP → List Addr) : Prop := Wd noHp H F (prt K p X R)
def RoomAt (K : PySem.W.Frag) (H : Hp) (p : Addr) (F : List Addr) (R : RoomS) : Prop := ∃ X Fp, F = flat Fp ∧ RIn K p X R H Fp
theorem RIn.live {K : PySem.W.Frag} {p : Addr} {X : RAd} {R : RoomS} {H : Hp} {F : RP → List Addr} (S : RIn K p X R H F) : Live H (flat F) := fun c hc => let ⟨i, h⟩ := flat_mem hc; S.sep.lv i c h
theorem RoomAt.live {K : PySem.W.Frag} {H : Hp} {p : Addr} {F : List Addr} {R : RoomS} (h : RoomAt K H p F R) : Live H F := by
  obtain ⟨X, Fp, rfl, S⟩ := h
  exact RIn.live S
theorem RIn.ext {K : PySem.W.Frag} {p : Addr} {X : RAd} {R : RoomS} {H H' : Hp} {F : RP → List Addr} {G : List Addr} (S : RIn K p X R H F) (e : Ext G H H') (a : Apart (flat F) G) : RIn K p X R H' F :=
  have rr : ∀ i, (prt K p X R i).At H' (F i) := fun i => (prt K p X R i).ext (S.r i) e fun c hc => a c (mem_flat hc)
  ⟨⟨S.sep.ap, fun i => (prt K p X R i).live (rr i), ext_noHp, fun i c _ => rfl⟩, rr⟩
theorem RoomAt.ext {K : PySem.W.Frag} {H H' : Hp} {p : Addr} {F G : List Addr} {R : RoomS} (h : RoomAt K H p F R) (e : Ext G H H') (a : Apart F G) : RoomAt K H' p F R := by
  obtain ⟨X, Fp, rfl, S⟩ := h
  exact ⟨X, Fp, rfl, RIn.ext S e a⟩
/-- one part changes: the room behind it -/
theorem RIn.step {K : PySem.W.Frag} {p : Addr} {X : RAd} {R R' : RoomS} {H H' : Hp} {F : RP → List Addr} {G : List Addr} (i : RP) (S : RIn K p X R H F) (e : Ext (F i) H H') (g : Grow H (F i) G) (h : (prt K p X R' i).At H' G) (o : ∀ j, j ≠ i → prt K p X R' j = prt K p X R j) :
    RIn K p X R' H' (at_ F i G) := by
  refine (Wd.step (T := prt K p X R' i) S e g h).mono fun j H1 F1 h1 => ?_
  by_cases c : j = i
  · subst c; rw [at_same] at h1; exact h1
  · rw [at_ne c] at h1; rw [o j c]; exact h1
theorem flat_grow {H : Hp} {F : RP → List Addr} {G : List Addr} {i : RP} (g : Grow H (F i) G) : Grow H (flat F) (flat (at_ F i G)) := fun c hc => by
  obtain ⟨j, hj⟩ := flat_mem hc
  by_cases z : j = i
  · subst z
    rw [at_same] at hj
    exact (g c hj).imp_left fun y => mem_flat y
  · rw [at_ne z] at hj
    exact .inl (mem_flat hj)
theorem ext_flat {F : RP → List Addr} {H H' : Hp} {i : RP} (e : Ext (F i) H H') : Ext (flat F) H H' := e.sub fun c hc => mem_flat hc
theorem prt_le {K : PySem.W.Frag} {p : Addr} {X : RAd} {R : RoomS} {L : LS} : ∀ j, j ≠ RP.le → prt K p X { R with L := L } j = prt K p X R j := fun j h => by cases j <;> first | rfl | exact absurd rfl h
theorem prt_lo {K : PySem.W.Frag} {p : Addr} {X : RAd} {R : RoomS} {G : LogS} : ∀ j, j ≠ RP.lo → prt K p X { R with G := G } j = prt K p X R j := fun j h => by cases j <;> first | rfl | exact absurd rfl h
theorem prt_ke {K : PySem.W.Frag} {p : Addr} {X : RAd} {R : RoomS} {kp : List (Str × (Str × Int))} : ∀ j, j ≠ RP.ke → prt K p X { R with kept := kp } j = prt K p X R j := fun j h => by cases j <;> first | rfl | exact absurd rfl h
theorem prt_wa {K : PySem.W.Frag} {p : Addr} {X : RAd} {R : RoomS} {ws : List (Int × WatS)} : ∀ j, j ≠ RP.wa → prt K p X { R with ws := ws } j = prt K p X R j := fun j h => by cases j <;> first | rfl | exact absurd rfl h
theorem prt_me {K : PySem.W.Frag} {p : Addr} {X : RAd} {R : RoomS} {now met : Int} : ∀ j, j ≠ RP.me → prt K p X { R with now := now, met := met } j = prt K p X R j := fun j h => by cases j <;> first | rfl | exact absurd rfl h
end LW

set_option maxHeartbeats 4000000
namespace LW
open PySem PySem.Spec PyProof.Rows L2
local macro_rules | `(tactic| wtm_at "vk") => `(tactic| first
  | assumption
  | with_reducible exact rv_mf_given
  | with_reducible exact rv_mf_free
  | exact valV_sv (by assumption)
  | exact valV_iv (by assumption)
  | fail)
local macro_rules | `(tactic| wtm_at "pk") => `(tactic| first
  | with_reducible exact putK_iv
  | with_reducible exact dropK_ik
  | with_reducible exact dropK_sk
  | with_reducible exact rp_mf_given
  | with_reducible exact rp_mf_free
  | exact putK_sv
  | assumption
  | fail)
local macro_rules | `(tactic| wtm_at "rm") => `(tactic| first
  | with_reducible exact rm_mf
  | exact rfl
  | fail)
local macro_rules | `(tactic| wtm_at "rl") => `(tactic| first
  | with_reducible exact rl_mf
  | with_reducible assumption
  | fail)
local macro_rules | `(tactic| wtm_at "lk") => `(tactic| with_reducible first
  | exact lk_Ear_behind
  | exact lk_Ear_begun
  | exact lk_Ear_rows
  | exact lk_Line_room
  | exact lk_Line_watcher
  | exact lk_Line_ear
  | exact lk_Leases_given
  | exact lk_Leases_spans
  | exact lk_Leases_ends
  | exact lk_Log_rows
  | exact lk_Log_gone
  | exact lk_Watcher_prefix
  | exact lk_Watcher_had
  | exact lk_Watcher_told
  | exact lk_Room_now
  | exact lk_Room_leases
  | exact lk_Room_log
  | exact lk_Room_kept
  | exact lk_Room_watchers
  | exact lk_Room_met
  | fail)
local macro_rules | `(tactic| wtm_at "lm") => `(tactic| with_reducible first
  | exact lm_Ear_hear
  | exact lm_Ear_heard
  | exact lm_Ear_state
  | exact lm_Line_turn
  | exact lm_Leases_grant
  | exact lm_Leases_need
  | exact lm_Leases_renew
  | exact lm_Leases_drop
  | exact lm_Leases_due
  | exact lm_Log_note
  | exact lm_Log_last
  | exact lm_Log_first
  | exact lm_Log_wanted
  | exact lm_Log_forget
  | exact lm_Room_grant
  | exact lm_Room_renew
  | exact lm_Room_drop
  | exact lm_Room_wait
  | exact lm_Room_free
  | exact lm_Room_put
  | exact lm_Room_cut
  | exact lm_Room_value
  | exact lm_Room_holder
  | exact lm_Room_pairs
  | exact lm_Room_last
  | exact lm_Room_first
  | exact lm_Room_watch
  | exact lm_Room_need
  | exact lm_Room_pull
  | exact lm_Room_confirm
  | exact lm_Room_broken
  | exact lm_Room_leave
  | exact lm_Room_trim
  | fail)
local macro_rules | `(tactic| wtm_at "pt") => `(tactic| with_reducible first
  | exact pt_Ear_behind
  | exact pt_Ear_begun
  | exact pt_Ear_rows
  | exact pi_Ear_0
  | exact pi_Ear_1
  | exact pi_Ear_2
  | exact pt_Line_room
  | exact pt_Line_watcher
  | exact pt_Line_ear
  | exact pi_Line_0
  | exact pi_Line_1
  | exact pi_Line_2
  | exact pt_Leases_given
  | exact pt_Leases_spans
  | exact pt_Leases_ends
  | exact pi_Leases_0
  | exact pi_Leases_1
  | exact pi_Leases_2
  | exact pt_Log_rows
  | exact pt_Log_gone
  | exact pi_Log_0
  | exact pi_Log_1
  | exact pt_Watcher_prefix
  | exact pt_Watcher_had
  | exact pt_Watcher_told
  | exact pi_Watcher_0
  | exact pi_Watcher_1
  | exact pi_Watcher_2
  | exact pt_Room_now
  | exact pt_Room_leases
  | exact pt_Room_log
  | exact pt_Room_kept
  | exact pt_Room_watchers
  | exact pt_Room_met
  | exact pi_Room_0
  | exact pi_Room_1
  | exact pi_Room_2
  | exact pi_Room_3
  | exact pi_Room_4
  | exact pi_Room_5
  | fail)
local macro_rules | `(tactic| wtm_at "lz") => `(tactic| with_reducible first
  | exact lz_Ear
  | exact lz_Line
  | exact lz_Leases
  | exact lz_Log
  | exact lz_Watcher
  | exact lz_Room
  | (simp only [List.length_cons, List.length_nil]; decide)
  | exact (by decide)
  | fail)
local macro_rules | `(tactic| wtm_at "hf") => `(tactic| first
  | assumption
  | (refine' hf_s ?hs ?hx; (case hs => assumption); (case hx => wtm_at "hf"))
  | (refine' hf_n ?hs ?hx ?ne; (case hs => assumption); (case hx => wtm_at "hf"); (case ne => wtm_at "ne"))
  | (refine' hf_e ?hs ?hx ?hy; (case hs => assumption); (case hx => wtm_at "hf"); (case hy => wtm_at "nin"))
  | fail)
local macro_rules | `(tactic| wtm_at "ne") => `(tactic| first
  | assumption
  | (apply Ne.symm; assumption)
  | (refine' ne_of_none ?hx ?hy; (case hy => assumption); (case hx => wtm_at "hf"))
  | (refine' (ne_of_none ?hx ?hy).symm; (case hy => assumption); (case hx => wtm_at "hf"))
  | (refine' ne_of ?hx ?hy ?hz; (case hx => assumption); (case hy => assumption); (case hz => intro z; cases z))
  | fail)
local macro_rules | `(tactic| wtm_at "nin") => `(tactic| first
  | assumption
  | exact notin_nil
  | (refine' notin_cons ?hx ?hy; (case hx => wtm_at "ne"); (case hy => wtm_at "nin"))
  | fail)
local macro_rules | `(tactic| wtm_at "mem") => `(tactic| first
  | assumption
  | exact List.mem_cons_self
  | (refine' List.mem_cons_of_mem _ ?hx; (case hx => wtm_at "mem"))
  | fail)
local macro_rules | `(tactic| wtm_at "wr") => `(tactic| first
  | exact Or.inr (by assumption)
  | exact Or.inl (by wtm_at "mem")
  | fail)
local macro_rules | `(tactic| wtm_at "lv") => `(tactic| first
  | assumption
  | exact Live.nil
  | (refine' Live.cons ?hx ?hy; (case hx => wtm_at "hf"); (case hy => wtm_at "lv"))
  | fail)
local macro_rules | `(tactic| wtm_at "run") => `(tactic| first
  | assumption
  | (refine' Run.same ?hx ?hy; (case hy => assumption); (case hx => wtm_at "run"))
  | fail)
local macro_rules | `(tactic| wtm_at "sq") => `(tactic| first
  | assumption
  | (refine' Run.seq ?hx ?hy; (case hx => assumption); (case hy => assumption))
  | (refine' SqL.of ?hx; (case hx => wtm_at "hf"))
  | (refine' Same.seq ?hx ?hy; (case hx => assumption); (case hy => wtm_at "sq"))
  | (refine' Ext.seqL ?hx ?hz ?hy; (case hx => assumption); (case hy => wtm_at "sq"); (case hz => wtm_at "nin"))
  | fail)
local macro_rules | `(tactic| wtm_at "st") => `(tactic| first
  | assumption
  | (refine' SqT.of ?hx; (case hx => wtm_at "hf"))
  | fail)
local macro_rules | `(tactic| wtm_at "ix") => `(tactic| first
  | assumption
  | exact rfl
  | fail)
local macro_rules | `(tactic| wtm_at "sz") => `(tactic| first
  | wtm_at "rl"
  | with_reducible assumption
  | (rw [ik_len]; wtm_at "sz")
  | (rw [sk_len]; wtm_at "sz")
  | exact smallM (by assumption)
  | exact smallM (by omega)
  | exact smallM (by simp only [List.length_cons, List.length_nil, List.length_append, List.length_map]; omega)
  | fail)
local macro_rules | `(tactic| wtm_at "tx") => `(tactic| first
  | assumption
  | ((with_reducible refine' Tx.app ?hx ?hy); (case hx => wtm_at "tx"); (case hy => wtm_at "tx"))
  | ((with_reducible refine' Tx.cut ?hx); (case hx => wtm_at "tx"))
  | with_reducible exact Tx.nil
  | fail)
local macro_rules | `(tactic| wtm_at "k") => `(tactic| first
  | with_reducible refine k_seq ?_
  | with_reducible refine k_next ?_
  | with_reducible refine k_asg ?_
  | with_reducible refine k_ret ?_
  | with_reducible refine k_retN ?_
  | with_reducible refine k_asgS ?_
  | ((with_reducible refine' l_setL ?hr ?hx ?he ?h2 ?hw ?_); (case hr => wtm_at "run"); (case hx => wtm_at "hf"); (case he => exact rfl); (case h2 => exact rfl); (case hw => wtm_at "wr"); intro _ _ _ _)
  | with_reducible refine k_minD ?_
  | with_reducible refine k_drop ?_
  | with_reducible refine k_ifS ?_
  | ((with_reducible refine' k_var ?hx ?_); (case hx => exact rfl))
  | with_reducible refine k_c ?_
  | with_reducible refine k_negc ?_
  | with_reducible refine k_neg ?_
  | with_reducible refine l_neg ?_
  | with_reducible refine k_op ?_
  | with_reducible refine k_cb ?_
  | with_reducible refine k_nil ?_
  | with_reducible refine k_cons ?_
  | with_reducible refine k_test ?_
  | with_reducible refine k_B ?_
  | with_reducible refine k_not ?_
  | with_reducible refine k_and ?_
  | with_reducible refine k_or ?_
  | with_reducible refine k_notV ?_
  | with_reducible refine k_andV ?_
  | with_reducible refine k_orV ?_
  | with_reducible refine k_bl ?_
  | with_reducible refine k_add ?_
  | with_reducible refine k_sub ?_
  | ((with_reducible refine' k_mod ?hx ?_); (case hx => first | decide | omega))
  | ((with_reducible refine' k_div ?hx ?_); (case hx => first | exact ⟨by decide, by decide⟩ | exact ⟨by omega, by omega⟩))
  | ((with_reducible refine' k_mul ?hx ?_); (case hx => first | exact Or.inl ⟨by decide, by decide⟩ | exact Or.inr ⟨by decide, by decide⟩ | exact Or.inl ⟨by omega, by omega⟩))
  | with_reducible refine k_chain ?_
  | with_reducible refine k_p6 ?_
  | with_reducible refine k_p9 ?_
  | with_reducible refine k_p12 ?_
  | with_reducible refine k_p13 ?_
  | with_reducible refine k_p18 ?_
  | with_reducible refine k_p30 ?_
  | with_reducible refine k_lt ?_
  | with_reducible refine k_le ?_
  | with_reducible refine k_gt ?_
  | with_reducible refine k_ge ?_
  | with_reducible refine k_eq ?_
  | with_reducible refine k_ne ?_
  | with_reducible refine k_seqS ?_
  | with_reducible refine k_neS ?_
  | with_reducible refine k_neB ?_
  | with_reducible refine k_isN ?_
  | with_reducible refine k_noN ?_
  | with_reducible refine k_fld ?_
  | ((with_reducible refine' l_fld ?hx ?hy ?_); (case hx => wtm_at "hf"); (case hy => wtm_at "lk"))
  | with_reducible refine k_fldS ?_
  | ((with_reducible refine' l_fldS ?hr ?hx ?hz ?hy ?hw ?_); (case hr => wtm_at "run"); (case hx => wtm_at "hf"); (case hy => wtm_at "pt"); (case hz => wtm_at "lz"); (case hw => wtm_at "wr"); intro _ _ _ _)
  | ((with_reducible refine' l_new ?hr ?_); (case hr => wtm_at "run"); intro _ _ _ _ _ _ _ _)
  | with_reducible refine k_append ?_
  | ((with_reducible refine' l_tyL ?hx ?_); (case hx => wtm_at "hf"))
  | ((with_reducible refine' l_ins ?hx ?hy ?_); (case hx => wtm_at "hf"); (case hy => wtm_at "lm"))
  | with_reducible refine k_methS ?_
  | with_reducible refine k_methG ?_
  | with_reducible refine k_makeG ?_
  | with_reducible refine k_meth0 ?_
  | with_reducible refine k_callS ?_
  | with_reducible refine k_callE ?_
  | with_reducible refine k_dget ?_
  | with_reducible refine k_din ?_
  | with_reducible refine k_dnotin ?_
  | with_reducible refine k_dput ?_
  | with_reducible refine k_dpop ?_
  | with_reducible refine k_dget2 ?_
  | with_reducible refine k_tup ?_
  | with_reducible refine k_lst ?_
  | with_reducible refine k_dnew ?_
  | ((with_reducible refine' l_tup ?hx ?_); (case hx => simp only [List.length_cons, List.length_nil]; decide))
  | ((with_reducible refine' l_lst ?hx ?_); (case hx => simp only [List.length_cons, List.length_nil]; decide))
  | ((with_reducible refine' l_isD ?hx ?_); (case hx => wtm_at "hf"))
  | ((with_reducible refine' l_dinI ?hx ?_); (case hx => wtm_at "hf"))
  | ((with_reducible refine' l_dinS ?hx ?_); (case hx => wtm_at "hf"))
  | ((with_reducible refine' l_dnotinI ?hx ?_); (case hx => wtm_at "hf"))
  | ((with_reducible refine' l_dnotinS ?hx ?_); (case hx => wtm_at "hf"))
  | ((with_reducible refine' l_dputI ?hr ?hx ?hz ?hy ?hw ?_); (case hr => wtm_at "run"); (case hx => wtm_at "hf"); (case hy => wtm_at "pk"); (case hz => wtm_at "sz"); (case hw => wtm_at "wr"); intro _ _ _ _)
  | ((with_reducible refine' l_dputS ?hr ?hx ?hz ?hy ?hw ?_); (case hr => wtm_at "run"); (case hx => wtm_at "hf"); (case hy => wtm_at "pk"); (case hz => wtm_at "sz"); (case hw => wtm_at "wr"); intro _ _ _ _)
  | ((with_reducible refine' l_dpopI ?hr ?hx ?hz ?hy ?hw ?_); (case hr => wtm_at "run"); (case hx => wtm_at "hf"); (case hy => wtm_at "pk"); (case hz => wtm_at "vk"); (case hw => wtm_at "wr"); intro _ _ _ _)
  | ((with_reducible refine' l_dpopS ?hr ?hx ?hz ?hy ?hw ?_); (case hr => wtm_at "run"); (case hx => wtm_at "hf"); (case hy => wtm_at "pk"); (case hz => wtm_at "vk"); (case hw => wtm_at "wr"); intro _ _ _ _)
  | ((with_reducible refine' l_dgetI ?hx ?hz ?_); (case hx => wtm_at "hf"); (case hz => wtm_at "vk"))
  | ((with_reducible refine' l_dgetS ?hx ?hz ?_); (case hx => wtm_at "hf"); (case hz => wtm_at "vk"))
  | ((with_reducible refine' l_dgetIF ?hx ?hz ?_); (case hx => wtm_at "hf"); (case hz => wtm_at "vk"))
  | ((with_reducible refine' l_dgetSF ?hx ?hz ?_); (case hx => wtm_at "hf"); (case hz => wtm_at "vk"))
  | ((with_reducible refine' l_dgetZ ?hx ?hz ?_); (case hx => wtm_at "hf"); (case hz => wtm_at "vk"))
  | ((with_reducible refine' k_disp ?hr ?_); (case hr => wtm_at "run"); intro _ _ _ _ _ _ _ _)
  | with_reducible refine k_pcons ?_
  | with_reducible refine k_pnil ?_
  | ((with_reducible refine' l_disp ?hr ?hx ?hu ?hv ?hy ?hw ?_); (case hr => wtm_at "run"); (case hx => wtm_at "hf"); (case hu => exact rfl); (case hv => simp only [List.length_map, List.length_cons, List.length_nil]; decide); (case hy => wtm_at "rm"); (case hw => wtm_at "wr"); intro _ _ _ _)
  | ((with_reducible refine' l_append ?hr ?hx ?hz ?hw ?_); (case hr => wtm_at "run"); (case hx => wtm_at "hf"); (case hz => wtm_at "sz"); (case hw => wtm_at "wr"); intro _ _ _ _)
  | ((with_reducible refine' l_isEt ?hx ?_); (case hx => first | exact isD (ExcK.kit (by assumption) _ (by wtm_at "mem") _ (by wtm_at "mem")) | exact isC (ExcK.kit (by assumption) _ (by wtm_at "mem") _ (by wtm_at "mem")) (by decide)))
  | ((with_reducible refine' l_isEV ?hx ?_); (case hx => exact ExcK.kitV (by assumption) _ (by wtm_at "mem")))
  | ((with_reducible refine' l_isiI ?hx ?_); (case hx => first | rfl | assumption))
  | ((with_reducible refine' l_isiB ?hx ?_); (case hx => first | rfl | assumption))
  | with_reducible refine l_isiSS ?_
  | ((with_reducible refine' l_isiS ?hx ?_); (case hx => first | rfl | assumption))
  | ((with_reducible refine' l_isiL ?hx ?_); (case hx => wtm_at "hf"))
  | ((with_reducible refine' l_isiO ?hx ?hy ?hz ?_); (case hx => wtm_at "hf"); (case hy => assumption); (case hz => assumption))
  | ((with_reducible refine' l_isiT ?hx ?_); (case hx => wtm_at "hf"))
  | ((with_reducible refine' l_lenL ?hx ?_); (case hx => wtm_at "sq"))
  | ((with_reducible refine' l_lenT ?hx ?_); (case hx => wtm_at "st"))
  | ((with_reducible refine' l_lenDK ?hx ?_); (case hx => wtm_at "hf"))
  | ((with_reducible refine' l_ixL ?hx ?hy ?_); (case hx => wtm_at "sq"); (case hy => wtm_at "ix"))
  | ((with_reducible refine' l_ixT ?hx ?hy ?_); (case hx => wtm_at "st"); (case hy => wtm_at "ix"))
  | with_reducible refine k_m1 ?_
  | with_reducible refine l_strX ?_
  | with_reducible refine l_sw ?_
  | ((with_reducible refine' x_addS ?hx ?hy ?hz ?_); (case hx => wtm_at "tx"); (case hy => wtm_at "tx"); (case hz => decide))
  | ((with_reducible refine' x_slS ?hx ?hz ?_); (case hx => wtm_at "tx"); (case hz => decide))
  | ((with_reducible refine' x_lenX ?hx ?hz ?_); (case hx => wtm_at "tx"); (case hz => decide))
  | with_reducible refine l_max ?_
  | with_reducible refine l_min ?_
  | with_reducible refine l_abs ?_
  | with_reducible refine k_sl ?_
  | with_reducible refine k_part ?_
  | with_reducible refine l_part ?_
  | with_reducible refine k_nopart ?_
  | with_reducible refine k_yes ?_
  | ((with_reducible refine' l_slL ?hr ?hx ?_); (case hr => wtm_at "run"); (case hx => wtm_at "sq"); intro _ _ _ _ _ _ _ _)
  | with_reducible refine k_lcL ?_
  | with_reducible refine k_lcR ?_
  | with_reducible refine k_for ?_
  | with_reducible refine k_zip ?_
  | with_reducible refine k_rng1 ?_
  | with_reducible refine k_rng2 ?_
  | with_reducible refine k_rng3 ?_
  | with_reducible refine k_makeS ?_
  | ((with_reducible refine' l_make ?hr ?_); (case hr => wtm_at "run"); intro _ _ _ _ _ _ _ _ _)
  | with_reducible refine k_ntt ?_
  | with_reducible refine k_ntf ?_
  | with_reducible refine k_clear ?_
  | ((with_reducible refine' l_clear ?hr ?hx ?hw ?_); (case hr => wtm_at "run"); (case hx => wtm_at "hf"); (case hw => wtm_at "wr"); intro _ _ _ _)
  | with_reducible refine k_ift ?_
  | with_reducible refine k_iff ?_
  | with_reducible refine g_name ?_
  | with_reducible refine k_revL ?_
  | ((with_reducible refine' l_tupL ?hx ?_); (case hx => wtm_at "sq"))
  | with_reducible refine l_intB ?_
  | ((with_reducible refine' l_rev ?hx ?_); (case hx => wtm_at "sq"))
  | ((with_reducible refine' l_gT2 ?hn ?hx ?_); (case hn => exact rfl); (case hx => wtm_at "st"))
  | ((with_reducible refine' l_listL ?hx ?_); (case hx => wtm_at "sq"))
  | ((with_reducible refine' l_listT ?hx ?_); (case hx => wtm_at "st"))
  | fail)
local macro_rules | `(tactic| wtm_at "pk") => `(tactic| with_reducible exact putK_vv)
local macro_rules | `(tactic| wtm_at "vk") => `(tactic| exact valV_vv (by assumption))
theorem zero (G : List Addr) : Apart G [] := fun c _ z => by cases z
noncomputable def RoomS.note (R : RoomS) (t : Int) (w k v : Str) : RoomS := { R with G := R.G.note ((ntOf t w k v).row (R.G.last + 1)) }
noncomputable def RoomS.put (R : RoomS) (key value : Str) (lease : Int) : RoomS := RoomS.note { R with kept := aput R.kept key (value, lease) } R.now "put" key value
noncomputable def RoomS.cutAt (R : RoomS) (tick : Int) (key : Str) : RoomS := RoomS.note { R with kept := adrop R.kept key } tick "cut" key ""
def holderOf (kept : List (Str × (Str × Int))) (key : Str) : Int := match aget kept key with
  | none => 0
  | some x => x.2
def valueOf (kept : List (Str × (Str × Int))) (key : Str) : V := match aget kept key with
  | none => .non
  | some x => .str x.1
noncomputable def keysOf (kept : List (Str × (Str × Int))) (lease : Int) : List Str := sortS ((kept.filter fun p => decide (p.2.2 = lease)).map (·.1))
noncomputable def RoomS.free (R : RoomS) (lease tick : Int) : RoomS := (keysOf R.kept lease).foldl (fun R k => R.cutAt tick k) R
noncomputable def RoomS.drop (R : RoomS) (lease : Int) : RoomS := RoomS.free { R with L := R.L.drop lease } lease R.now
noncomputable def pairsOf (kept : List (Str × (Str × Int))) (pre : Str) : List SS := ((sortS (kept.map (·.1))).filter fun k => begins k pre).map fun k => ssOf (k, ((aget kept k).getD (Str.empty, 0)).1)
theorem RIn.keep {K : PySem.W.Frag} {p : Addr} {X : RAd} {R R' : RoomS} {H H' : Hp} {F : RP → List Addr} (i : RP) (S : RIn K p X R H F) (e : Ext (F i) H H') (h : (prt K p X R' i).At H' (F i)) (o : ∀ j, j ≠ i → prt K p X R' j = prt K p X R j) : RIn K p X R' H' F := by
  have z := RIn.step i S e (Grow.refl _ _) h o
  rw [at_id] at z
  exact z
/-- two ways that meet again, the second test within the first; else a refusal -/
theorem k_fork3 {nx bk ct : St → Hp → Prop} {rt : VK} {σ : St} {H : Hp} {u : TS} {b : Bool} {tt : TT} {E1 E2 : Hp → Prop} (Pre : St → Hp → Prop)
    (main : ∀ nx' : St → Hp → Prop, (∀ σ' H', Pre σ' H' → nx' σ' H') → if b = true then tt σ H fun b1 H1 => if b1 = true then E1 H1 else u ⟨nx', rt, bk, ct⟩ σ H1 else if false = true then E2 H else u ⟨nx', rt, bk, ct⟩ σ H)
    (key : ∀ σ' H', Pre σ' H' → nx σ' H') : if b = true then tt σ H fun b1 H1 => if b1 = true then E1 H1 else u ⟨nx, rt, bk, ct⟩ σ H1 else if false = true then E2 H else u ⟨nx, rt, bk, ct⟩ σ H := main nx key
theorem tx_put : Tx 1000 "put" := txD (by decide +kernel)
theorem tx_cut : Tx 1000 "cut" := txD (by decide +kernel)
theorem tx_no : Tx 1000 "" := txD (by decide +kernel)
def RoomS.new : RoomS := ⟨0, LS.new, ⟨[], 0⟩, [], [], 0⟩
theorem cutAt_kept {R : RoomS} {t : Int} {k : Str} : (R.cutAt t k).kept = adrop R.kept k := rfl
theorem foldCut_kept {tick : Int} : ∀ {l : List Str} {R : RoomS}, (l.foldl (fun R k => R.cutAt tick k) R).kept = l.foldl adrop R.kept
  | [], R => rfl
  | k :: l, R => foldCut_kept (l := l) (R := R.cutAt tick k)
theorem foldCut_rows {tick : Int} : ∀ {l : List Str} {R : RoomS}, (l.foldl (fun R k => R.cutAt tick k) R).G.rows.length = R.G.rows.length + l.length
  | [], R => rfl
  | k :: l, R => by
    refine (foldCut_rows (l := l) (R := R.cutAt tick k)).trans ?_
    show (R.G.rows ++ [_]).length + l.length = R.G.rows.length + (l.length + 1)
    rw [List.length_append]; simp; omega
theorem aget_foldDrop {α : Type} : ∀ {l : List Str} {kp : List (Str × α)} {y : Str}, y ∉ l → aget (l.foldl adrop kp) y = aget kp y
  | [], _, _, _ => rfl
  | k :: l, kp, y, h => by
    rw [List.mem_cons, not_or] at h
    refine (aget_foldDrop (l := l) (kp := adrop kp k) h.2).trans ?_
    rw [aget_adrop, if_neg (fun z => h.1 z.symm)]
theorem len_foldDrop {α : Type} : ∀ {l : List Str} {kp : List (Str × α)}, (l.foldl adrop kp).length ≤ kp.length
  | [], _ => Nat.le_refl _
  | k :: l, kp => Nat.le_trans (len_foldDrop (l := l) (kp := adrop kp k)) length_adrop
theorem keysOf_mem {kept : List (Str × (Str × Int))} {lease : Int} {y : Str} (h : y ∈ keysOf kept lease) : ∃ x, (y, x) ∈ kept ∧ x.2 = lease := by
  have := (sortS_perm _).mem_iff.mp h
  obtain ⟨p, hp, rfl⟩ := List.mem_map.mp this
  obtain ⟨h1, h2⟩ := List.mem_filter.mp hp
  exact ⟨p.2, h1, of_decide_eq_true h2⟩
theorem keysOf_nodup {kept : List (Str × (Str × Int))} {lease : Int} (nd : (kept.map (·.1)).Nodup) : (keysOf kept lease).Nodup :=
  (sortS_perm _).nodup_iff.mpr (nd.sublist (List.Sublist.map _ List.filter_sublist))
theorem keysOf_len {kept : List (Str × (Str × Int))} {lease : Int} : (keysOf kept lease).length ≤ kept.length := by
  unfold keysOf
  rw [(sortS_perm _).length_eq, List.length_map]
  exact List.length_filter_le _ _
theorem take_notin {α : Type} {l : List α} {i : Nat} {x : α} (nd : l.Nodup) (e : l[i]? = some x) : x ∉ l.take i := fun h => by
  obtain ⟨j, hj, ej⟩ := List.mem_iff_getElem.mp h
  rw [List.length_take] at hj
  rw [List.getElem_take] at ej
  have hi : i < l.length := by
    rcases Nat.lt_or_ge i l.length with z | z
    · exact z
    · rw [List.getElem?_eq_none z] at e; cases e
  rw [List.getElem?_eq_getElem hi] at e
  exact List.pairwise_iff_getElem.mp nd j i (by omega) hi (by omega) (ej.trans (Option.some.inj e).symm)
section
variable {P : Program} {w : World} {K : PySem.W.Frag} {mg : Str → Option Value} {base : Heap}
def sp_Room_init (K : PySem.W.Frag) : Sp := fun vs H Q _ => ∃ p dx, vs = [.ref p] ∧ H p = some (.ins (He.ga K "Room") dx []) ∧
  ∀ H' F, RoomAt K H' p F RoomS.new → Grow H [p] F → Ext [p] H H' → Q .non H'
theorem sc_Room_init : FnScope ["self"] ["self"] (defScope s_Room_init) := ⟨rfl, rfl, rfl, by decide +kernel, rfl, by decide +kernel, by decide +kernel⟩
theorem ok_Room_init (T : FX K mg) : FnOk P w K mg base (L2N.CX P w) 3 (He.ma K (He.ga K "Room") "__init__") (fdAt K ("Room", some "__init__")) ["self"] (sp_Room_init K) := by
  refine FunD.ok T.F_Room_init sc_Room_init (fun vs H Q E h => ?_) (fun cdv A outer s H vs Q E hr h => ?_)
  · (repeat (obtain ⟨_, h⟩ := h)); subst_vars; rfl
  · have hu := hu_of hr
    have hu64 := hr.units
    refine ⟨_,
      (pss_cons
        (ps_fldC T.cl_Room T.na_Room_now (pv 0) pe_int)
      (pss_cons
        (ps_fldC T.cl_Room T.na_Room_leases (pv 0) (pe_makeS0 T.mk_Leases (ok_Leases_init T) (hr.mono (j := 2) (by decide)) rfl T.g_Leases T.b_Leases_init (fun σ => L2N.passAt tkd σ)))
      (pss_cons
        (ps_fldC T.cl_Room T.na_Room_log (pv 0) (pe_makeS0 T.mk_Log (ok_Log_init T) (hr.mono (j := 2) (by decide)) rfl T.g_Log T.b_Log_init (fun σ => L2N.passAt tkd σ)))
      (pss_cons
        (ps_fldC T.cl_Room T.na_Room_kept (pv 0) pe_dnewK)
      (pss_cons
        (ps_fldC T.cl_Room T.na_Room_watchers (pv 0) pe_dnewK)
      (pss_one
        (ps_fldC T.cl_Room T.na_Room_met (pv 0) pe_int))))))), ?_⟩
    obtain ⟨p, dx, rfl, hp, k⟩ := h
    have R0 : Run [p] H H := Run.start (by wtm_at "lv")
    repeat wtm_at "k"
    rename_i H1 r1 g1 n1 pl dl H2 a1 a2 a3 r2 g2 s2
    refine ⟨pl, dl, rfl, g2, fun H3 ps pe b1 b2 l3 e3 => ⟨rfl, ?_⟩⟩
    have nps : p ≠ pl := ne_of_none (show H1 p = some _ from g1) a3
    have r3 : Run [p] H H3 := r2.call e3 (fun c h => .inr (by rw [List.mem_singleton.mp h]; exact a1)) fun c h1 h2 => absurd ((List.mem_singleton.mp h1).symm.trans (List.mem_singleton.mp h2)) nps
    obtain ⟨⟨dl3, l31⟩, l32, l33, l34⟩ := id l3
    have g3 : H3 p = some _ := e3.keep _ _ (s2 _ _ g1) (by simpa using nps)
    have nB1 : H ps = none := by
      refine r2.ext.free b1 ?_
      intro z
      rw [List.mem_singleton.mp z] at b1
      rw [s2 _ _ g1] at b1; cases b1
    have nB2 : H pe = none := by
      refine r2.ext.free b2 ?_
      intro z
      rw [List.mem_singleton.mp z] at b2
      rw [s2 _ _ g1] at b2; cases b2
    clear g1
    repeat wtm_at "k"
    rename_i H4 r4 g4 n4 pg dg H5 c1 c2 c3 r5 g5 s5
    have l4 : LeasesAt K H5 pl ps pe LS.new := by
      have npl : pl ≠ p := nps.symm
      refine ⟨⟨dl3, ?_⟩, ?_, ?_, l34⟩
      · wtm_at "hf"
      · wtm_at "hf"
      · wtm_at "hf"
    have g5p : H5 p = some _ := s5 _ _ g4
    have npg : p ≠ pg := ne_of_none g4 c3
    refine ⟨pg, dg, rfl, g5, fun H6 Fg l6 gr6 e6 => ⟨rfl, ?_⟩⟩
    have npl6 : pl ≠ pg := by wtm_at "ne"
    have nps6 : ps ≠ pg := by wtm_at "ne"
    have npe6 : pe ≠ pg := by wtm_at "ne"
    have r6 : Run [p] H H6 := r5.call e6 (fun c h => .inr (by rw [List.mem_singleton.mp h]; exact c1)) fun c h1 h2 => absurd ((List.mem_singleton.mp h1).symm.trans (List.mem_singleton.mp h2)) npg
    have g6 : H6 p = some _ := e6.keep _ _ g5p (by simpa using npg)
    have L5 : Live H4 [pl, ps, pe] := by
      have npl : pl ≠ p := nps.symm
      wtm_at "lv"
    have nFg : ∀ c ∈ Fg, H4 c = none := fun c hc => (gr6 c hc).elim (fun z => by rw [List.mem_singleton.mp z]; exact c3) fun z => (Same.ext (F := []) s5).free z (by simp)
    have aF : Apart [pl, ps, pe] Fg := fun c h1 h2 => L5 c h1 (nFg c h2)
    have npFg : p ∉ Fg := fun z => by
      have := nFg p z
      rw [g4] at this; cases this
    have l6a := l4.ext e6 (by simpa using npl6) (by simpa using nps6) (by simpa using npe6)
    have lv6 := l6.live
    obtain ⟨⟨dl6, l61⟩, l62, l63, l64⟩ := id l6a
    clear g4 g5p g3
    repeat wtm_at "k"
    rename_i Hx rx gx nx pk H7 k1 k2 k3' r7 g7 s7 H8 r8 g8 n8 pw H9 w1 w2 w3 r9 g9 s9 H10 r10 g10 n10 H11 r11 g11 n11
    have npl : pl ≠ p := nps.symm
    have nle : ∀ c ∈ [pl, ps, pe], H c = none := by
      intro c hc; simp only [List.mem_cons, List.not_mem_nil, or_false] at hc; rcases hc with rfl | rfl | rfl <;> assumption
    have nlo : ∀ c ∈ Fg, H c = none := fun c hc => r4.ext.free (nFg c hc) (by simpa using fun z : c = p => npFg (z ▸ hc))
    have lvl : Live H6 [pl, ps, pe] := by wtm_at "lv"
    have pH : H p ≠ none := by rw [hp]; simp
    have npk : p ≠ pk := fun z => by rw [← z] at k1; exact pH k1
    have npw : p ≠ pw := fun z => by rw [← z] at w1; exact pH w1
    have nkw : pk ≠ pw := by wtm_at "ne"
    have k3 : H6 pk = none := by rw [← nx pk npk.symm]; exact k3'
    have x611 : Ext [p] H6 H11 := ⟨fun c o h hn => by
      have q : c ≠ p := by simpa using hn
      have q1 : c ≠ pk := ne_of_none h k3
      wtm_at "hf", fun c xs h => by wtm_at "hf"⟩
    have lg11 := l6.ext x611 (fun c hc hd => npFg (by rw [← List.mem_singleton.mp hd]; exact hc))
    have ll11 := l6a.ext x611 (by simpa using npl) (by simpa using fun z : ps = p => by rw [z] at nB1; exact pH nB1) (by simpa using fun z : pe = p => by rw [z] at nB2; exact pH nB2)
    refine k H11 _ ⟨⟨pl, pg, pk, pw⟩, fun | .me => [p] | .le => [pl, ps, pe] | .lo => Fg | .ke => [pk] | .wa => [pw], rfl, ⟨⟨?_, ?_, ext_noHp, fun _ _ _ => rfl⟩, ?_⟩⟩ ?_ r11.ext
    · have pl' : ∀ c ∈ [pl, ps, pe], c ≠ p := fun c hc z => pH (z ▸ nle c hc)
      have h1 : Apart [p] [pl, ps, pe] := fun c h1 h2 => pl' c h2 (List.mem_singleton.mp h1)
      have h2 : Apart [p] Fg := fun c h1 h2 => npFg (by rw [← List.mem_singleton.mp h1]; exact h2)
      have h3 : Apart [p] [pk] := fun c h1 h2 => npk ((List.mem_singleton.mp h1).symm.trans (List.mem_singleton.mp h2))
      have h4 : Apart [p] [pw] := fun c h1 h2 => npw ((List.mem_singleton.mp h1).symm.trans (List.mem_singleton.mp h2))
      have h5 : Apart [pl, ps, pe] [pk] := fun c h1 h2 => lvl c h1 (by rw [List.mem_singleton.mp h2]; exact k3)
      have h6 : Apart Fg [pk] := fun c h1 h2 => lv6 c h1 (by rw [List.mem_singleton.mp h2]; exact k3)
      have w6 : H6 pw = none := by
        refine (show Ext [p] H6 H8 from ⟨fun c o h hn => by
          have q : c ≠ p := by simpa using hn
          wtm_at "hf", fun c xs h => by wtm_at "hf"⟩).free w3 (by simpa using npw.symm)
      have h7 : Apart [pl, ps, pe] [pw] := fun c h1 h2 => lvl c h1 (by rw [List.mem_singleton.mp h2]; exact w6)
      have h8 : Apart Fg [pw] := fun c h1 h2 => lv6 c h1 (by rw [List.mem_singleton.mp h2]; exact w6)
      have h9 : Apart [pk] [pw] := fun c h1 h2 => nkw ((List.mem_singleton.mp h1).symm.trans (List.mem_singleton.mp h2))
      intro i j h
      cases i <;> cases j <;> first | exact absurd rfl h | assumption | (apply Apart.symm; assumption)
    · intro i
      cases i
      · exact Live.cons g11 Live.nil
      · obtain ⟨⟨_, q1⟩, q2, q3, _⟩ := ll11
        exact Live.cons q1 (Live.cons q2 (Live.cons q3 Live.nil))
      · exact lg11.live
      · refine Live.cons (o := .dK []) ?_ Live.nil; wtm_at "hf"
      · refine Live.cons (o := .dK []) ?_ Live.nil; wtm_at "hf"
    · intro i
      cases i
      · exact ⟨rfl, dx, g11⟩
      · exact ⟨ps, pe, rfl, ll11⟩
      · exact lg11
      · exact ⟨rfl, (fun _ z => by cases z), [], by wtm_at "hf", .nil⟩
      · exact ⟨[], rfl, by wtm_at "hf", by simp, .nil⟩
    · intro c hc
      obtain ⟨i, hi⟩ := flat_mem hc
      cases i
      · exact .inl hi
      · exact .inr (nle c hi)
      · exact .inr (nlo c hi)
      · exact .inr (by rw [List.mem_singleton.mp hi]; exact k1)
      · exact .inr (by rw [List.mem_singleton.mp hi]; exact w1)
def sp_Room_holder (K : PySem.W.Frag) : Sp := fun vs H Q _ => ∃ p F R key, vs = [.ref p, .str key] ∧ RoomAt K H p F R ∧ Q (.int (holderOf R.kept key)) H
theorem sc_Room_holder : FnScope ["self", "key"] ["self", "key"] (defScope s_Room_holder) := ⟨rfl, rfl, rfl, by decide +kernel, rfl, by decide +kernel, by decide +kernel⟩
theorem ok_Room_holder (T : FX K mg) : FnOk P w K mg base (L2N.CX P w) 1 (He.ma K (He.ga K "Room") "holder") (fdAt K ("Room", some "holder")) ["self", "key"] (sp_Room_holder K) := by
  refine FunD.ok T.F_Room_holder sc_Room_holder (fun vs H Q E h => ?_) (fun cdv A outer s H vs Q E hr h => ?_)
  · (repeat (obtain ⟨_, h⟩ := h)); subst_vars; rfl
  · have hu := hu_of hr
    have hu64 := hr.units
    refine ⟨_,
      (pss_cons
        (ps_if (pt_cmp (pc_din hu (pv 1) (pe_fldC T.cl_Room T.na_Room_kept (pv 0))))
          (pss_one
            (ps_ret (pe_ix ix_tup (pe_dget hu (pe_fldC T.cl_Room T.na_Room_kept (pv 0)) (pv 1) (fun _ _ => rfl)) pe_int (fun _ _ => rfl))))
          pss_nil)
      (pss_one
        (ps_ret pe_int))), ?_⟩
    obtain ⟨p, F, R, key, rfl, ⟨X, Fp, rfl, S⟩, k⟩ := h
    obtain ⟨em, dx, hp⟩ := S.r .me
    obtain ⟨ek, ok, kl, hk, pk⟩ := S.r .ke
    repeat wtm_at "k"
    rw [isSome_vv, kl_isSome pk]
    unfold holderOf at k
    cases e : aget R.kept key with
    | none =>
      rw [e] at k
      refine k_iff ?_
      repeat wtm_at "k"
      exact k
    | some x =>
      rw [e] at k
      obtain ⟨v, ev, t, rfl, ht⟩ := kl_some pk e
      have ve := valV_vv ev
      refine k_ift ?_
      repeat wtm_at "k"
      exact k
def sp_Room_value (K : PySem.W.Frag) : Sp := fun vs H Q _ => ∃ p F R key, vs = [.ref p, .str key] ∧ RoomAt K H p F R ∧ Q (valueOf R.kept key) H
theorem sc_Room_value : FnScope ["self", "key"] ["self", "key"] (defScope s_Room_value) := ⟨rfl, rfl, rfl, by decide +kernel, rfl, by decide +kernel, by decide +kernel⟩
theorem ok_Room_value (T : FX K mg) : FnOk P w K mg base (L2N.CX P w) 1 (He.ma K (He.ga K "Room") "value") (fdAt K ("Room", some "value")) ["self", "key"] (sp_Room_value K) := by
  refine FunD.ok T.F_Room_value sc_Room_value (fun vs H Q E h => ?_) (fun cdv A outer s H vs Q E hr h => ?_)
  · (repeat (obtain ⟨_, h⟩ := h)); subst_vars; rfl
  · have hu := hu_of hr
    have hu64 := hr.units
    refine ⟨_,
      (pss_cons
        (ps_if (pt_cmp (pc_din hu (pv 1) (pe_fldC T.cl_Room T.na_Room_kept (pv 0))))
          (pss_one
            (ps_ret (pe_ix ix_tup (pe_dget hu (pe_fldC T.cl_Room T.na_Room_kept (pv 0)) (pv 1) (fun _ _ => rfl)) pe_int (fun _ _ => rfl))))
          pss_nil)
      (pss_one
        (ps_ret pe_non))), ?_⟩
    obtain ⟨p, F, R, key, rfl, ⟨X, Fp, rfl, S⟩, k⟩ := h
    obtain ⟨em, dx, hp⟩ := S.r .me
    obtain ⟨ek, ok, kl, hk, pk⟩ := S.r .ke
    repeat wtm_at "k"
    rw [isSome_vv, kl_isSome pk]
    unfold valueOf at k
    cases e : aget R.kept key with
    | none =>
      rw [e] at k
      refine k_iff ?_
      repeat wtm_at "k"
      exact k
    | some x =>
      rw [e] at k
      obtain ⟨v, ev, t, rfl, ht⟩ := kl_some pk e
      have ve := valV_vv ev
      refine k_ift ?_
      repeat wtm_at "k"
      exact k
def sp_Room_last (K : PySem.W.Frag) : Sp := fun vs H Q _ => ∃ p F R, vs = [.ref p] ∧ RoomAt K H p F R ∧ Q (.int R.G.last) H
theorem sc_Room_last : FnScope ["self"] ["self"] (defScope s_Room_last) := ⟨rfl, rfl, rfl, by decide +kernel, rfl, by decide +kernel, by decide +kernel⟩
theorem ok_Room_last (T : FX K mg) : FnOk P w K mg base (L2N.CX P w) 2 (He.ma K (He.ga K "Room") "last") (fdAt K ("Room", some "last")) ["self"] (sp_Room_last K) := by
  refine FunD.ok T.F_Room_last sc_Room_last (fun vs H Q E h => ?_) (fun cdv A outer s H vs Q E hr h => ?_)
  · (repeat (obtain ⟨_, h⟩ := h)); subst_vars; rfl
  · have hu := hu_of hr
    have hu64 := hr.units
    refine ⟨_,
      (pss_one
        (ps_ret (pe_meth0S (pe_fldC T.cl_Room T.na_Room_log (pv 0)) T.cl_Log T.me_Log_last (ok_Log_last T) (hr.mono (j := 1) (by decide)) T.b_Log_last (fun σ => L2N.passAt tkd σ)))), ?_⟩
    obtain ⟨p, F, R, rfl, ⟨X, Fp, rfl, S⟩, k⟩ := h
    obtain ⟨em, dx, hp⟩ := S.r .me
    have hg := S.r .lo
    obtain ⟨pr, dg, ys, eg, n, g1, g2, g3⟩ := id hg
    repeat wtm_at "k"
    exact ⟨_, _, R.G, rfl, hg, k⟩
def sp_Room_first (K : PySem.W.Frag) : Sp := fun vs H Q _ => ∃ p F R, vs = [.ref p] ∧ RoomAt K H p F R ∧ Q (.int (R.G.gone + 1)) H
theorem sc_Room_first : FnScope ["self"] ["self"] (defScope s_Room_first) := ⟨rfl, rfl, rfl, by decide +kernel, rfl, by decide +kernel, by decide +kernel⟩
theorem ok_Room_first (T : FX K mg) : FnOk P w K mg base (L2N.CX P w) 2 (He.ma K (He.ga K "Room") "first") (fdAt K ("Room", some "first")) ["self"] (sp_Room_first K) := by
  refine FunD.ok T.F_Room_first sc_Room_first (fun vs H Q E h => ?_) (fun cdv A outer s H vs Q E hr h => ?_)
  · (repeat (obtain ⟨_, h⟩ := h)); subst_vars; rfl
  · have hu := hu_of hr
    have hu64 := hr.units
    refine ⟨_,
      (pss_one
        (ps_ret (pe_meth0S (pe_fldC T.cl_Room T.na_Room_log (pv 0)) T.cl_Log T.me_Log_first (ok_Log_first T) (hr.mono (j := 1) (by decide)) T.b_Log_first (fun σ => L2N.passAt tkd σ)))), ?_⟩
    obtain ⟨p, F, R, rfl, ⟨X, Fp, rfl, S⟩, k⟩ := h
    obtain ⟨em, dx, hp⟩ := S.r .me
    have hg := S.r .lo
    obtain ⟨pr, dg, ys, eg, n, g1, g2, g3⟩ := id hg
    repeat wtm_at "k"
    exact ⟨_, _, R.G, rfl, hg, k⟩
def sp_Room_grant (K : PySem.W.Frag) : Sp := fun vs H Q E => ∃ p F R ticks, vs = [.ref p, .int ticks] ∧ RoomAt K H p F R ∧ R.L.spans.length ≤ 1000 ∧ R.L.ends.length ≤ 1000 ∧
  (1 ≤ ticks ∧ ticks ≤ 1000000 → ∀ H', RoomAt K H' p F { R with L := R.L.grant R.now ticks } → Ext F H H' → Q (.int (R.L.given + 1)) H') ∧ (¬ (1 ≤ ticks ∧ ticks ≤ 1000000) → E (.ref (He.ga K "BadTicks")) none H)
theorem sc_Room_grant : FnScope ["self", "ticks"] ["self", "ticks"] (defScope s_Room_grant) := ⟨rfl, rfl, rfl, by decide +kernel, rfl, by decide +kernel, by decide +kernel⟩
theorem ok_Room_grant (T : FX K mg) : FnOk P w K mg base (L2N.CX P w) 2 (He.ma K (He.ga K "Room") "grant") (fdAt K ("Room", some "grant")) ["self", "ticks"] (sp_Room_grant K) := by
  refine FunD.ok T.F_Room_grant sc_Room_grant (fun vs H Q E h => ?_) (fun cdv A outer s H vs Q E hr h => ?_)
  · (repeat (obtain ⟨_, h⟩ := h)); subst_vars; rfl
  · have hu := hu_of hr
    have hu64 := hr.units
    refine ⟨_,
      (pss_one
        (ps_ret (pe_methS (pe_fldC T.cl_Room T.na_Room_leases (pv 0)) T.cl_Leases T.me_Leases_grant (ok_Leases_grant T) (hr.mono (j := 1) (by decide)) T.b_Leases_grant (fun σ => L2N.passAt tkd σ) (pa_cons (pe_fldC T.cl_Room T.na_Room_now (pv 0)) (pa_cons (pv 1) pa_nil))))), ?_⟩
    obtain ⟨p, F, R, ticks, rfl, ⟨X, Fp, rfl, S⟩, z1, z2, k1, k2⟩ := h
    obtain ⟨em, dx, hp⟩ := S.r .me
    obtain ⟨ps, pe, el, hl⟩ := S.r .le
    obtain ⟨⟨dl, h1⟩, h2, h3, hne⟩ := id hl
    repeat wtm_at "k"
    refine ⟨X.pl, ps, pe, R.L, R.now, ticks, rfl, hl, z1, z2, fun c H' hl' e => ?_, k2⟩
    have e' : Ext (Fp .le) H H' := by rw [el]; exact e
    exact k1 c H' ⟨X, Fp, rfl, RIn.keep .le S e' ⟨ps, pe, el, hl'⟩ prt_le⟩ (ext_flat e')
def sp_Room_renew (K : PySem.W.Frag) : Sp := fun vs H Q E => ∃ p F R lease, vs = [.ref p, .int lease] ∧ RoomAt K H p F R ∧ R.L.spans.length ≤ 1000 ∧ R.L.ends.length ≤ 1000 ∧
  (∀ e, aget R.L.ends lease = some e → ∃ t, aget R.L.spans lease = some t ∧ ∀ H', RoomAt K H' p F { R with L := R.L.renew lease (R.now + t) } → Ext F H H' → Q .non H') ∧ (aget R.L.ends lease = none → E (.ref (He.ga K "NoLease")) none H)
theorem sc_Room_renew : FnScope ["self", "lease"] ["self", "lease"] (defScope s_Room_renew) := ⟨rfl, rfl, rfl, by decide +kernel, rfl, by decide +kernel, by decide +kernel⟩
theorem ok_Room_renew (T : FX K mg) : FnOk P w K mg base (L2N.CX P w) 3 (He.ma K (He.ga K "Room") "renew") (fdAt K ("Room", some "renew")) ["self", "lease"] (sp_Room_renew K) := by
  refine FunD.ok T.F_Room_renew sc_Room_renew (fun vs H Q E h => ?_) (fun cdv A outer s H vs Q E hr h => ?_)
  · (repeat (obtain ⟨_, h⟩ := h)); subst_vars; rfl
  · have hu := hu_of hr
    have hu64 := hr.units
    refine ⟨_,
      (pss_one
        (ps_expr (pe_methS (pe_fldC T.cl_Room T.na_Room_leases (pv 0)) T.cl_Leases T.me_Leases_renew (ok_Leases_renew T) (hr.mono (j := 2) (by decide)) T.b_Leases_renew (fun σ => L2N.passAt tkd σ) (pa_cons (pe_fldC T.cl_Room T.na_Room_now (pv 0)) (pa_cons (pv 1) pa_nil))))), ?_⟩
    obtain ⟨p, F, R, lease, rfl, ⟨X, Fp, rfl, S⟩, z1, z2, k1, k2⟩ := h
    obtain ⟨em, dx, hp⟩ := S.r .me
    obtain ⟨ps, pe, el, hl⟩ := S.r .le
    obtain ⟨⟨dl, h1⟩, h2, h3, hne⟩ := id hl
    repeat wtm_at "k"
    refine ⟨X.pl, ps, pe, R.L, R.now, lease, rfl, hl, z1, z2, fun e ce => ?_, k2⟩
    obtain ⟨t, ct, k1⟩ := k1 e ce
    refine ⟨t, ct, fun H' hl' e => ?_⟩
    have e' : Ext (Fp .le) H H' := by rw [el]; exact e
    repeat wtm_at "k"
    exact k1 H' ⟨X, Fp, rfl, RIn.keep .le S e' ⟨ps, pe, el, hl'⟩ prt_le⟩ (ext_flat e')
/-- a key is refused: by whom -/
def noLease (R : RoomS) (lease : Int) : Prop := lease ≠ 0 ∧ aget R.L.ends lease = none
def isHeld (R : RoomS) (key : Str) (lease : Int) : Prop := holderOf R.kept key ≠ 0 ∧ holderOf R.kept key ≠ lease
def sp_Room_put (K : PySem.W.Frag) : Sp := fun vs H Q E => ∃ p F R key value lease, vs = [.ref p, .str key, .str value, .int lease] ∧ RoomAt K H p F R ∧ Tx 1000 key ∧ Tx 1000 value ∧ R.kept.length ≤ 1000 ∧ R.G.rows.length ≤ 900000 ∧
  (noLease R lease → E (.ref (He.ga K "NoLease")) none H) ∧ (¬ noLease R lease → isHeld R key lease → E (.ref (He.ga K "Held")) none H) ∧
  (¬ noLease R lease → ¬ isHeld R key lease → ∀ H', RoomAt K H' p F (R.put key value lease) → Ext F H H' → Q (.int (R.G.last + 1)) H')
theorem sc_Room_put : FnScope ["self", "key", "value", "lease"] ["self", "key", "value", "lease"] (defScope s_Room_put) := ⟨rfl, rfl, rfl, by decide +kernel, rfl, by decide +kernel, by decide +kernel⟩
theorem ok_Room_put (T : FX K mg) : FnOk P w K mg base (L2N.CX P w) 3 (He.ma K (He.ga K "Room") "put") (fdAt K ("Room", some "put")) ["self", "key", "value", "lease"] (sp_Room_put K) := by
  refine FunD.ok T.F_Room_put sc_Room_put (fun vs H Q E h => ?_) (fun cdv A outer s H vs Q E hr h => ?_)
  · (repeat (obtain ⟨_, h⟩ := h)); subst_vars; rfl
  · have hu := hu_of hr
    have hu64 := hr.units
    refine ⟨_,
      (pss_cons
        (ps_if (pt_cmpR oIne (pv 3) pe_int (nomark _))
          (pss_one
            (ps_expr (pe_methS (pe_fldC T.cl_Room T.na_Room_leases (pv 0)) T.cl_Leases T.me_Leases_need (ok_Leases_need T) (hr.mono (j := 1) (by decide)) T.b_Leases_need (fun σ => L2N.passAt tkd σ) (pa_cons (pv 3) pa_nil))))
          pss_nil)
      (pss_cons
        (ps_if (PW.pt (pw_and (pt_cmpR oIne (pe_methS (pv 0) T.cl_Room T.me_Room_holder (ok_Room_holder T) (hr.mono (j := 1) (by decide)) T.b_Room_holder (fun σ => L2N.passAt tkd σ) (pa_cons (pv 1) pa_nil)) pe_int (nomark _)) (pw_and1 (pt_cmpR oIne (pe_methS (pv 0) T.cl_Room T.me_Room_holder (ok_Room_holder T) (hr.mono (j := 1) (by decide)) T.b_Room_holder (fun σ => L2N.passAt tkd σ) (pa_cons (pv 1) pa_nil)) (pv 3) (nomark _)))))
          (pss_one
            (L2N.ps_raise rfl tkd (L2N.pmk_own PySem.F.excBase_ValueError T.x_Held.1 T.g_Held T.x_Held.2.1 (raises_own T.x_Held.2.2.1 T.x_Held.2.2.2) rfl)))
          pss_nil)
      (pss_cons
        (ps_dput hu (pe_fldC T.cl_Room T.na_Room_kept (pv 0)) (pv 1) (pe_tup (pa_cons (pv 2) (pa_cons (pv 3) pa_nil))) rfl)
      (pss_one
        (ps_ret (pe_methS (pe_fldC T.cl_Room T.na_Room_log (pv 0)) T.cl_Log T.me_Log_note (ok_Log_note T) (hr.mono (j := 2) (by decide)) T.b_Log_note (fun σ => L2N.passAt tkd σ) (pa_cons (pe_fldC T.cl_Room T.na_Room_now (pv 0)) (pa_cons pe_str (pa_cons (pv 1) (pa_cons (pv 2) pa_nil)))))))))), ?_⟩
    obtain ⟨p, F, R, key, value, lease, rfl, hR, tk, tv, zk, zg, kA, kB, kC⟩ := h
    obtain ⟨X, Fp, rfl, S⟩ := id hR
    obtain ⟨em, dx, hp⟩ := S.r .me
    obtain ⟨ps, pe, el, hl⟩ := S.r .le
    obtain ⟨⟨dl, h1⟩, h2, h3, hne⟩ := id hl
    obtain ⟨ek, ok, kl, hk, pk⟩ := S.r .ke
    have hg := S.r .lo
    obtain ⟨pr, dg, ys, eg, ng, g1, g2, g3⟩ := id hg
    have lk := kl_len pk
    repeat wtm_at "k"
    refine k_fork (fun σ' H' => σ' = [some (.ref p), some (.str key), some (.str value), some (.int lease)] ∧ H = H' ∧ ¬ noLease R lease) (fun nx' ky => ?_) ?_
    · refine k_ifnd (fun c => ?_) fun c => ?_
      · repeat wtm_at "k"
        refine ⟨X.pl, ps, pe, R.L, lease, rfl, hl, fun ⟨t, ct⟩ => ?_, fun ct => kA ⟨c, ct⟩⟩
        exact ky _ _ ⟨rfl, rfl, fun z => by rw [z.2] at ct; cases ct⟩
      · exact k_next (ky _ _ ⟨rfl, rfl, fun z => z.1 c⟩)
    rintro _ _ ⟨rfl, rfl, nl⟩
    have kB := kB nl
    have kC := kC nl
    have R0 : Run [X.pk] H H := Run.start (by wtm_at "lv")
    repeat wtm_at "k"
    refine ⟨p, _, R, key, rfl, hR, ?_⟩
    repeat wtm_at "k"
    have done : ¬ isHeld R key lease → ∀ (v : V) (H1 H2 : Hp), IsT fKV H1 v (value, lease) → Ext [] H H1 → Ext [X.pk] H H2 → H2 X.pk = some (.dK (sk vv (aput kl key v))) → TupK H1 H2 → LogAt K H2 X.pg (Fp .lo) R.G ∧
        (∀ H3, LogAt K H3 X.pg (Fp .lo) (R.G.note ⟨R.G.last + 1, R.now, "put", key, value, tx_put, tk, tv⟩) → Ext (Fp .lo) H2 H3 → Q (.int (R.G.last + 1)) H3) := by
      intro nh v H1 H2 hv e01 e02 hk2 tk2
      have e' : Ext (Fp .ke) H H2 := by rw [ek]; exact e02
      have ok2 : OkK (aput R.kept key (value, lease)) := fun q hq => (mem_aput hq).elim (fun e => by rw [e]; exact ⟨tk, tv⟩) fun z => ok q z.1
      have S2 : RIn K p X { R with kept := aput R.kept key (value, lease) } H2 Fp := RIn.keep .ke S e' ⟨ek, ok2, _, hk2, kl_put (keepK e02.tups pk) (hv.keep tk2)⟩ prt_ke
      refine ⟨S2.r .lo, fun H3 h3 e3 => kC nh H3 ⟨X, Fp, rfl, ?_⟩ ((ext_flat e').trans (ext_flat e3))⟩
      refine RIn.keep .lo S2 e3 ?_ prt_lo
      have en : (ntOf R.now "put" key value).row (R.G.last + 1) = ⟨R.G.last + 1, R.now, "put", key, value, tx_put, tk, tv⟩ := by rw [ntOf_eq tx_put tk tv]; rfl
      show LogAt K H3 X.pg (Fp .lo) (R.G.note ((ntOf R.now "put" key value).row (R.G.last + 1)))
      rw [en]
      exact h3
    refine k_fork3 (E1 := fun H' => E (.ref (He.ga K "Held")) none H') (E2 := fun H' => E (.ref (He.ga K "Held")) none H') (fun σ' H' => σ' = [some (.ref p), some (.str key), some (.str value), some (.int lease)] ∧ H = H' ∧ ¬ isHeld R key lease) (fun nx' ky => ?_) ?_
    · refine k_ifnd (fun c1 => ?_) fun c1 => ?_
      · repeat wtm_at "k"
        refine ⟨p, _, R, key, rfl, hR, ?_⟩
        repeat wtm_at "k"
        refine k_ifnd (fun c2 => kB ⟨c1, c2⟩) fun c2 => ?_
        repeat wtm_at "k"
        exact ky _ _ ⟨rfl, rfl, fun z => z.2 c2⟩
      · repeat wtm_at "k"
        exact ky _ _ ⟨rfl, rfl, fun z => z.1 c1⟩
    rintro _ _ ⟨rfl, rfl, nh⟩
    repeat wtm_at "k"
    rename_i t H1 a1 a2 a3 r1 b1 s1 H2 r2 b2 n2
    have hk1 := s1 _ _ hk
    obtain ⟨hl2, fin⟩ := done nh (.ref t) H1 H2 ⟨t, rfl, b1⟩ (Same.ext s1) r2.ext b2 (fun a xs h => by wtm_at "hf")
    obtain ⟨pr2, dg2, ys2, eg2, ng2, q1, q2, q3⟩ := id hl2
    repeat wtm_at "k"
    exact ⟨X.pg, _, R.G, R.now, _, key, value, tx_put, tk, tv, rfl, hl2, zg, fun H3 h3 e3 => fin H3 h3 e3⟩
def sp_Room_cut (K : PySem.W.Frag) : Sp := fun vs H Q E => ∃ p F R key lease, vs = [.ref p, .str key, .int lease] ∧ RoomAt K H p F R ∧ Tx 1000 key ∧ R.kept.length ≤ 1000 ∧ R.G.rows.length ≤ 900000 ∧
  (noLease R lease → E (.ref (He.ga K "NoLease")) none H) ∧ (¬ noLease R lease → aget R.kept key = none → E (.ref (He.ga K "NoKey")) none H) ∧ (¬ noLease R lease → aget R.kept key ≠ none → isHeld R key lease → E (.ref (He.ga K "Held")) none H) ∧
  (¬ noLease R lease → aget R.kept key ≠ none → ¬ isHeld R key lease → ∀ H', RoomAt K H' p F (R.cutAt R.now key) → Ext F H H' → Q (.int (R.G.last + 1)) H')
theorem sc_Room_cut : FnScope ["self", "key", "lease"] ["self", "key", "lease"] (defScope s_Room_cut) := ⟨rfl, rfl, rfl, by decide +kernel, rfl, by decide +kernel, by decide +kernel⟩
theorem ok_Room_cut (T : FX K mg) : FnOk P w K mg base (L2N.CX P w) 3 (He.ma K (He.ga K "Room") "cut") (fdAt K ("Room", some "cut")) ["self", "key", "lease"] (sp_Room_cut K) := by
  refine FunD.ok T.F_Room_cut sc_Room_cut (fun vs H Q E h => ?_) (fun cdv A outer s H vs Q E hr h => ?_)
  · (repeat (obtain ⟨_, h⟩ := h)); subst_vars; rfl
  · have hu := hu_of hr
    have hu64 := hr.units
    refine ⟨_,
      (pss_cons
        (ps_if (pt_cmpR oIne (pv 2) pe_int (nomark _))
          (pss_one
            (ps_expr (pe_methS (pe_fldC T.cl_Room T.na_Room_leases (pv 0)) T.cl_Leases T.me_Leases_need (ok_Leases_need T) (hr.mono (j := 1) (by decide)) T.b_Leases_need (fun σ => L2N.passAt tkd σ) (pa_cons (pv 2) pa_nil))))
          pss_nil)
      (pss_cons
        (ps_if (pt_cmp (pc_dnotin hu (pv 1) (pe_fldC T.cl_Room T.na_Room_kept (pv 0))))
          (pss_one
            (L2N.ps_raise rfl tkd (L2N.pmk_own PySem.F.excBase_ValueError T.x_NoKey.1 T.g_NoKey T.x_NoKey.2.1 (raises_own T.x_NoKey.2.2.1 T.x_NoKey.2.2.2) rfl)))
          pss_nil)
      (pss_cons
        (ps_if (PW.pt (pw_and (pt_cmpR oIne (pe_methS (pv 0) T.cl_Room T.me_Room_holder (ok_Room_holder T) (hr.mono (j := 1) (by decide)) T.b_Room_holder (fun σ => L2N.passAt tkd σ) (pa_cons (pv 1) pa_nil)) pe_int (nomark _)) (pw_and1 (pt_cmpR oIne (pe_methS (pv 0) T.cl_Room T.me_Room_holder (ok_Room_holder T) (hr.mono (j := 1) (by decide)) T.b_Room_holder (fun σ => L2N.passAt tkd σ) (pa_cons (pv 1) pa_nil)) (pv 2) (nomark _)))))
          (pss_one
            (L2N.ps_raise rfl tkd (L2N.pmk_own PySem.F.excBase_ValueError T.x_Held.1 T.g_Held T.x_Held.2.1 (raises_own T.x_Held.2.2.1 T.x_Held.2.2.2) rfl)))
          pss_nil)
      (pss_cons
        (ps_expr (pe_dpop1 (pe_fldC T.cl_Room T.na_Room_kept (pv 0)) (pv 1) ⟨rfl, rfl, rfl, rfl⟩))
      (pss_one
        (ps_ret (pe_methS (pe_fldC T.cl_Room T.na_Room_log (pv 0)) T.cl_Log T.me_Log_note (ok_Log_note T) (hr.mono (j := 2) (by decide)) T.b_Log_note (fun σ => L2N.passAt tkd σ) (pa_cons (pe_fldC T.cl_Room T.na_Room_now (pv 0)) (pa_cons pe_str (pa_cons (pv 1) (pa_cons pe_str pa_nil))))))))))), ?_⟩
    obtain ⟨p, F, R, key, lease, rfl, hR, tk, zk, zg, kA, kN, kB, kC⟩ := h
    obtain ⟨X, Fp, rfl, S⟩ := id hR
    obtain ⟨em, dx, hp⟩ := S.r .me
    obtain ⟨ps, pe, el, hl⟩ := S.r .le
    obtain ⟨⟨dl, h1⟩, h2, h3, hne⟩ := id hl
    obtain ⟨ek, ok, kl, hk, pk⟩ := S.r .ke
    have hg := S.r .lo
    obtain ⟨pr, dg, ys, eg, ng, g1, g2, g3⟩ := id hg
    have lk := kl_len pk
    repeat wtm_at "k"
    refine k_fork (fun σ' H' => σ' = [some (.ref p), some (.str key), some (.int lease)] ∧ H = H' ∧ ¬ noLease R lease) (fun nx' ky => ?_) ?_
    · refine k_ifnd (fun c => ?_) fun c => ?_
      · repeat wtm_at "k"
        refine ⟨X.pl, ps, pe, R.L, lease, rfl, hl, fun ⟨t, ct⟩ => ?_, fun ct => kA ⟨c, ct⟩⟩
        exact ky _ _ ⟨rfl, rfl, fun z => by rw [z.2] at ct; cases ct⟩
      · exact k_next (ky _ _ ⟨rfl, rfl, fun z => z.1 c⟩)
    rintro _ _ ⟨rfl, rfl, nl⟩
    have kB := kB nl
    have kC := kC nl
    have kN := kN nl
    have R0 : Run [X.pk] H H := Run.start (by wtm_at "lv")
    repeat wtm_at "k"
    rw [isSome_vv, kl_isSome pk]
    cases ck : aget R.kept key with
    | none => exact k_ift (kN ck)
    | some x =>
      have kB := kB (by rw [ck]; simp)
      have kC := kC (by rw [ck]; simp)
      obtain ⟨v0, ev0, hv0⟩ := kl_some pk ck
      have ve0 := valV_vv ev0
      refine k_iff ?_
      repeat wtm_at "k"
      refine ⟨p, _, R, key, rfl, hR, ?_⟩
      repeat wtm_at "k"
      refine k_fork3 (E1 := fun H' => E (.ref (He.ga K "Held")) none H') (E2 := fun H' => E (.ref (He.ga K "Held")) none H') (fun σ' H' => σ' = [some (.ref p), some (.str key), some (.int lease)] ∧ H = H' ∧ ¬ isHeld R key lease) (fun nx' ky => ?_) ?_
      · refine k_ifnd (fun c1 => ?_) fun c1 => ?_
        · repeat wtm_at "k"
          refine ⟨p, _, R, key, rfl, hR, ?_⟩
          repeat wtm_at "k"
          refine k_ifnd (fun c2 => kB ⟨c1, c2⟩) fun c2 => ?_
          repeat wtm_at "k"
          exact ky _ _ ⟨rfl, rfl, fun z => z.2 c2⟩
        · repeat wtm_at "k"
          exact ky _ _ ⟨rfl, rfl, fun z => z.1 c1⟩
      rintro _ _ ⟨rfl, rfl, nh⟩
      repeat wtm_at "k"
      rename_i H2 r2 b2 n2
      have e' : Ext (Fp .ke) H H2 := by rw [ek]; exact r2.ext
      have S2 : RIn K p X { R with kept := adrop R.kept key } H2 Fp := RIn.keep .ke S e' ⟨ek, fun q hq => ok q (mem_adrop.mp hq).1, _, b2, kl_drop (keepK r2.ext.tups pk)⟩ prt_ke
      have hl2 := S2.r .lo
      obtain ⟨pr2, dg2, ys2, eg2, ng2, q1, q2, q3⟩ := id hl2
      repeat wtm_at "k"
      refine ⟨X.pg, _, R.G, R.now, _, key, _, tx_cut, tk, tx_no, rfl, hl2, zg, fun H3 h3 e3 => kC nh H3 ⟨X, Fp, rfl, ?_⟩ ((ext_flat e').trans (ext_flat e3))⟩
      refine RIn.keep .lo S2 e3 ?_ prt_lo
      have en : (ntOf R.now "cut" key "").row (R.G.last + 1) = ⟨R.G.last + 1, R.now, "cut", key, "", tx_cut, tk, tx_no⟩ := by rw [ntOf_eq tx_cut tk tx_no]; rfl
      show LogAt K H3 X.pg (Fp .lo) (R.G.note ((ntOf R.now "cut" key "").row (R.G.last + 1)))
      rw [en]
      exact h3
def sp_Room_free (K : PySem.W.Frag) : Sp := fun vs H Q _ => ∃ p F R lease tick, vs = [.ref p, .int lease, .int tick] ∧ RoomAt K H p F R ∧ (R.kept.map (·.1)).Nodup ∧ R.kept.length ≤ 1000 ∧ R.G.rows.length + R.kept.length ≤ 900000 ∧
  ∀ H', RoomAt K H' p F (R.free lease tick) → Ext F H H' → Q .non H'
theorem sc_Room_free : FnScope ["self", "lease", "tick", "key", "one"] ["self", "lease", "tick"] (defScope s_Room_free) := ⟨rfl, rfl, rfl, by decide +kernel, rfl, by decide +kernel, by decide +kernel⟩
theorem ok_Room_free (T : FX K mg) : FnOk P w K mg base (L2N.CX P w) 3 (He.ma K (He.ga K "Room") "free") (fdAt K ("Room", some "free")) ["self", "lease", "tick"] (sp_Room_free K) := by
  refine FunD.ok T.F_Room_free sc_Room_free (fun vs H Q E h => ?_) (fun cdv A outer s H vs Q E hr h => ?_)
  · (repeat (obtain ⟨_, h⟩ := h)); subst_vars; rfl
  · have hu := hu_of hr
    have hu64 := hr.units
    refine ⟨_,
      (pss_one
        (ps_for pod rfl (pi_list (pe_callB oSortS (by rfl) T.f_sorted (by decide +kernel) (pa_cons (pe_lock (pe_lc (own := [("one", 4)]) (g := gName 4) rfl sc_Room_free.nd (pi_keys (pe_fldC T.cl_Room T.na_Room_kept (pv 0))) (blkOk_by (N := ["self", "lease", "tick", "key", "one"]) (sc := defScope s_Room_free) (by decide +kernel)) (fun _ _ _ _ _ => (pg_name (i := 4) sc_Room_free.nd rfl (Or.inl rfl))) (fun _ _ _ _ _ => (pts_one (pt_cmpR oIeq (pe_ix (ix_tupK (K := K) rfl) (pe_dget hu (pe_fldC T.cl_Room T.na_Room_kept (pv 0)) (pv 4) (fun _ _ => rfl)) pe_int (fun _ _ => rfl)) (pv 1) (nomark _)))) (fun _ _ _ _ _ => (pv 4)))) pa_nil))) (pg_name (i := 3) sc_Room_free.nd rfl (Or.inl rfl))
          (pss_cons
            (ps_expr (pe_dpop1 (pe_fldC T.cl_Room T.na_Room_kept (pv 0)) (pv 3) ⟨rfl, rfl, rfl, rfl⟩))
          (pss_one
            (ps_expr (pe_methS (pe_fldC T.cl_Room T.na_Room_log (pv 0)) T.cl_Log T.me_Log_note (ok_Log_note T) (hr.mono (j := 2) (by decide)) T.b_Log_note (fun σ => L2N.passAt tkd σ) (pa_cons (pv 2) (pa_cons pe_str (pa_cons (pv 3) (pa_cons pe_str pa_nil)))))))))), ?_⟩
    obtain ⟨p, F, R, lease, tick, rfl, hR, nd, zk, zg, k⟩ := h
    obtain ⟨X, Fp, rfl, S⟩ := id hR
    obtain ⟨em, dx, hp⟩ := S.r .me
    obtain ⟨ek, ok, kl, hk, pk⟩ := S.r .ke
    have lk := kl_len pk
    repeat wtm_at "k"
    have npk : p ≠ X.pk := by wtm_at "ne"
    have ndk : (kl.map (·.1)).Nodup := by rw [kl_keys pk]; exact nd
    refine lc_keysS (j := 4) (W := vv) (l := kl) hk (by wtm_at "sz") (fun od R' hR' => ?_) (fun m acc _ => acc = (((R.kept.take m.length).filter fun q => decide (q.2.2 = lease)).map (·.1)).map V.str) rfl (fun _ _ _ _ _ z => z)
      (fun i p1 od acc H1 R' R0' el1 hf hkp hl1 hP q1 q0 => ?_) (fun D H1 acc nD e1 hD lD hP => ?_)
    · have a1 : upd H X.pk (.frz od (.dK (sk vv kl))) p = some _ := (upd_ne npk).trans hp
      repeat wtm_at "k"
      exact hR'
    · obtain ⟨q, eq, e2, t, e3, ht⟩ := kl_get pk el1
      have hi : i < kl.length := by
        rcases Nat.lt_or_ge i kl.length with z | z
        · exact z
        · rw [List.getElem?_eq_none z] at el1; cases el1
      have lt : (kl.take i).length = i := by rw [List.length_take]; omega
      have lt2 : (kl.take i ++ [p1]).length = i + 1 := by rw [List.length_append, lt]; rfl
      have a1 := hkp _ _ npk hp
      have ge : aget kl p1.1 = some p1.2 := aget_of_mem ndk (List.mem_of_getElem? el1)
      rw [e3] at ge
      have vge := valV_vv ge
      have ht1 : H1 t = some (.tup (fKV q.2)) := hkp _ _ (by wtm_at "ne") ht
      have es : ∀ b : Bool, (R.kept.take (i + 1)).filter (fun q => decide (q.2.2 = lease)) = (R.kept.take i).filter (fun q => decide (q.2.2 = lease)) ++ if decide (q.2.2 = lease) = true then [q] else [] := fun _ => filter_take_snoc eq
      repeat wtm_at "k"
      refine k_ifd (fun c => ?_) fun c => ?_
      · repeat wtm_at "k"
        refine q1 _ _ (Ext.refl _ _) ?_
        rw [lt2, es true, if_pos (decide_eq_true c), hP, lt, List.map_append, List.map_append, e2]; rfl
      · refine q0 _ (Ext.refl _ _) ?_
        rw [lt2, es true, if_neg (by simpa using c), hP, lt, List.append_nil]
    · have R1 : Run [] H H1 := (Run.start Live.nil).same e1
      rw [lk, List.take_length] at hP
      rw [hP] at hD
      repeat wtm_at "k"
      refine l_sortS R1 (SqL.of hD) fun l H2 u1 u2 u3 r2 g2 s2 => ?_
      have ekk : sortS ((R.kept.filter fun q => decide (q.2.2 = lease)).map (·.1)) = keysOf R.kept lease := rfl
      rw [ekk] at g2
      have hR2 : RoomAt K H2 p (flat Fp) R := hR.ext r2.ext (zero _)
      have nF : l ∉ flat Fp := fun z => hR.live l z u1
      have nks := keysOf_nodup (lease := lease) nd
      have zks := keysOf_len (kept := R.kept) (lease := lease)
      unfold RoomS.free at k
      have mks : ∀ y ∈ keysOf R.kept lease, aget R.kept y ≠ none ∧ Tx 1000 y := fun y hy => by
        obtain ⟨x, hx, _⟩ := keysOf_mem hy
        exact ⟨by rw [aget_of_mem nd hx]; simp, (ok _ hx).1⟩
      generalize keysOf R.kept lease = ks at *
      refine l_for (xs := ks.map V.str) (SqL.of g2) (fun i σ' H' => ∃ x3, σ' = [some (.ref p), some (.int lease), some (.int tick), x3, none] ∧ H' l = some (.lst (ks.map V.str)) ∧ Ext (flat Fp) H H' ∧ RoomAt K H' p (flat Fp) ((ks.take i).foldl (fun R k => R.cutAt tick k) R)) ?h0 ?hl ?hs ?hd
      case h0 => exact ⟨_, rfl, g2, r2.ext.sub (by simp), hR2⟩
      case hl => exact fun i σ' H' _ ⟨_, _, h, _⟩ => SqL.of h
      case hs =>
        intro i x σ' H3 ex ⟨x3, es, h3, e3, hR3⟩
        subst es
        obtain ⟨y, ey, rfl⟩ := getM ex
        obtain ⟨my, ty⟩ := mks y (List.mem_of_getElem? ey)
        have eke : ((ks.take i).foldl (fun R k => R.cutAt tick k) R).kept = (ks.take i).foldl adrop R.kept := foldCut_kept
        have ego : ((ks.take i).foldl (fun R k => R.cutAt tick k) R).G.rows.length = R.G.rows.length + (ks.take i).length := foldCut_rows
        have lti := List.length_take_le' i ks
        have gy : aget ((ks.take i).foldl (fun R k => R.cutAt tick k) R).kept y ≠ none := by rw [eke, aget_foldDrop (take_notin nks ey)]; exact my
        rw [show (ks.take (i + 1)).foldl (fun R k => R.cutAt tick k) R = ((ks.take i).foldl (fun R k => R.cutAt tick k) R).cutAt tick y from foldl_snoc ey]
        generalize (ks.take i).foldl (fun R k => R.cutAt tick k) R = Ri at *
        obtain ⟨X3, Fp3, eF3, S3⟩ := id hR3
        obtain ⟨em3, dx3, hp3⟩ := S3.r .me
        obtain ⟨ek3, ok3, kl3, hk3, pk3⟩ := S3.r .ke
        have hg3 := S3.r .lo
        cases ck : aget Ri.kept y with
        | none => exact absurd ck gy
        | some x0 =>
          obtain ⟨v0, ev0, hv0⟩ := kl_some pk3 ck
          have ve0 := valV_vv ev0
          have R3 : Run [X3.pk] H3 H3 := Run.start (by wtm_at "lv")
          repeat wtm_at "k"
          rename_i H4 r4 b4 n4
          have e' : Ext (Fp3 .ke) H3 H4 := by rw [ek3]; exact r4.ext
          have S4 : RIn K p X3 { Ri with kept := adrop Ri.kept y } H4 Fp3 := RIn.keep .ke S3 e' ⟨ek3, fun q hq => ok3 q (mem_adrop.mp hq).1, _, b4, kl_drop (keepK r4.ext.tups pk3)⟩ prt_ke
          have hl4 := S4.r .lo
          obtain ⟨pr2, dg2, ys2, eg2, ng2, q1, q2, q3⟩ := id hl4
          repeat wtm_at "k"
          refine ⟨X3.pg, _, Ri.G, tick, _, y, _, tx_cut, ty, tx_no, rfl, hl4, by omega, fun H5 h5 e5 => ?_⟩
          have x35 : Ext (flat Fp3) H3 H5 := (ext_flat e').trans (ext_flat e5)
          rw [← eF3] at x35
          refine ⟨_, rfl, x35.keep _ _ h3 nF, e3.trans x35, X3, Fp3, eF3, ?_⟩
          refine RIn.keep .lo S4 e5 ?_ prt_lo
          have en : (ntOf tick "cut" y "").row (Ri.G.last + 1) = ⟨Ri.G.last + 1, tick, "cut", y, "", tx_cut, ty, tx_no⟩ := by rw [ntOf_eq tx_cut ty tx_no]; rfl
          show LogAt K H5 X3.pg (Fp3 .lo) (Ri.G.note ((ntOf tick "cut" y "").row (Ri.G.last + 1)))
          rw [en]
          exact h5
      case hd =>
        rintro σ' H3 ⟨x3, rfl, h3, e3, hR3⟩
        have e : ks.take (ks.map V.str).length = ks := by rw [List.length_map, List.take_length]
        rw [e] at hR3
        exact k H3 hR3 e3
end
end LW

set_option maxHeartbeats 4000000
namespace LW
open PySem PySem.Spec PyProof.Rows L2
local macro_rules | `(tactic| wtm_at "vk") => `(tactic| first
  | assumption
  | with_reducible exact rv_mf_given
  | with_reducible exact rv_mf_free
  | exact valV_sv (by assumption)
  | exact valV_iv (by assumption)
  | fail)
local macro_rules | `(tactic| wtm_at "pk") => `(tactic| first
  | with_reducible exact putK_iv
  | with_reducible exact dropK_ik
  | with_reducible exact dropK_sk
  | with_reducible exact rp_mf_given
  | with_reducible exact rp_mf_free
  | exact putK_sv
  | assumption
  | fail)
local macro_rules | `(tactic| wtm_at "rm") => `(tactic| first
  | with_reducible exact rm_mf
  | exact rfl
  | fail)
local macro_rules | `(tactic| wtm_at "rl") => `(tactic| first
  | with_reducible exact rl_mf
  | with_reducible assumption
  | fail)
local macro_rules | `(tactic| wtm_at "lk") => `(tactic| with_reducible first
  | exact lk_Ear_behind
  | exact lk_Ear_begun
  | exact lk_Ear_rows
  | exact lk_Line_room
  | exact lk_Line_watcher
  | exact lk_Line_ear
  | exact lk_Leases_given
  | exact lk_Leases_spans
  | exact lk_Leases_ends
  | exact lk_Log_rows
  | exact lk_Log_gone
  | exact lk_Watcher_prefix
  | exact lk_Watcher_had
  | exact lk_Watcher_told
  | exact lk_Room_now
  | exact lk_Room_leases
  | exact lk_Room_log
  | exact lk_Room_kept
  | exact lk_Room_watchers
  | exact lk_Room_met
  | fail)
local macro_rules | `(tactic| wtm_at "lm") => `(tactic| with_reducible first
  | exact lm_Ear_hear
  | exact lm_Ear_heard
  | exact lm_Ear_state
  | exact lm_Line_turn
  | exact lm_Leases_grant
  | exact lm_Leases_need
  | exact lm_Leases_renew
  | exact lm_Leases_drop
  | exact lm_Leases_due
  | exact lm_Log_note
  | exact lm_Log_last
  | exact lm_Log_first
  | exact lm_Log_wanted
  | exact lm_Log_forget
  | exact lm_Room_grant
  | exact lm_Room_renew
  | exact lm_Room_drop
  | exact lm_Room_wait
  | exact lm_Room_free
  | exact lm_Room_put
  | exact lm_Room_cut
  | exact lm_Room_value
  | exact lm_Room_holder
  | exact lm_Room_pairs
  | exact lm_Room_last
  | exact lm_Room_first
  | exact lm_Room_watch
  | exact lm_Room_need
  | exact lm_Room_pull
  | exact lm_Room_confirm
  | exact lm_Room_broken
  | exact lm_Room_leave
  | exact lm_Room_trim
  | fail)
local macro_rules | `(tactic| wtm_at "pt") => `(tactic| with_reducible first
  | exact pt_Ear_behind
  | exact pt_Ear_begun
  | exact pt_Ear_rows
  | exact pi_Ear_0
  | exact pi_Ear_1
  | exact pi_Ear_2
  | exact pt_Line_room
  | exact pt_Line_watcher
  | exact pt_Line_ear
  | exact pi_Line_0
  | exact pi_Line_1
  | exact pi_Line_2
  | exact pt_Leases_given
  | exact pt_Leases_spans
  | exact pt_Leases_ends
  | exact pi_Leases_0
  | exact pi_Leases_1
  | exact pi_Leases_2
  | exact pt_Log_rows
  | exact pt_Log_gone
  | exact pi_Log_0
  | exact pi_Log_1
  | exact pt_Watcher_prefix
  | exact pt_Watcher_had
  | exact pt_Watcher_told
  | exact pi_Watcher_0
  | exact pi_Watcher_1
  | exact pi_Watcher_2
  | exact pt_Room_now
  | exact pt_Room_leases
  | exact pt_Room_log
  | exact pt_Room_kept
  | exact pt_Room_watchers
  | exact pt_Room_met
  | exact pi_Room_0
  | exact pi_Room_1
  | exact pi_Room_2
  | exact pi_Room_3
  | exact pi_Room_4
  | exact pi_Room_5
  | fail)
local macro_rules | `(tactic| wtm_at "lz") => `(tactic| with_reducible first
  | exact lz_Ear
  | exact lz_Line
  | exact lz_Leases
  | exact lz_Log
  | exact lz_Watcher
  | exact lz_Room
  | (simp only [List.length_cons, List.length_nil]; decide)
  | exact (by decide)
  | fail)
local macro_rules | `(tactic| wtm_at "hf") => `(tactic| first
  | assumption
  | (refine' hf_s ?hs ?hx; (case hs => assumption); (case hx => wtm_at "hf"))
  | (refine' hf_n ?hs ?hx ?ne; (case hs => assumption); (case hx => wtm_at "hf"); (case ne => wtm_at "ne"))
  | (refine' hf_e ?hs ?hx ?hy; (case hs => assumption); (case hx => wtm_at "hf"); (case hy => wtm_at "nin"))
  | fail)
local macro_rules | `(tactic| wtm_at "ne") => `(tactic| first
  | assumption
  | (apply Ne.symm; assumption)
  | (refine' ne_of_none ?hx ?hy; (case hy => assumption); (case hx => wtm_at "hf"))
  | (refine' (ne_of_none ?hx ?hy).symm; (case hy => assumption); (case hx => wtm_at "hf"))
  | (refine' ne_of ?hx ?hy ?hz; (case hx => assumption); (case hy => assumption); (case hz => intro z; cases z))
  | fail)
local macro_rules | `(tactic| wtm_at "nin") => `(tactic| first
  | assumption
  | exact notin_nil
  | (refine' notin_cons ?hx ?hy; (case hx => wtm_at "ne"); (case hy => wtm_at "nin"))
  | fail)
local macro_rules | `(tactic| wtm_at "mem") => `(tactic| first
  | assumption
  | exact List.mem_cons_self
  | (refine' List.mem_cons_of_mem _ ?hx; (case hx => wtm_at "mem"))
  | fail)
local macro_rules | `(tactic| wtm_at "wr") => `(tactic| first
  | exact Or.inr (by assumption)
  | exact Or.inl (by wtm_at "mem")
  | fail)
local macro_rules | `(tactic| wtm_at "lv") => `(tactic| first
  | assumption
  | exact Live.nil
  | (refine' Live.cons ?hx ?hy; (case hx => wtm_at "hf"); (case hy => wtm_at "lv"))
  | fail)
local macro_rules | `(tactic| wtm_at "run") => `(tactic| first
  | assumption
  | (refine' Run.same ?hx ?hy; (case hy => assumption); (case hx => wtm_at "run"))
  | fail)
local macro_rules | `(tactic| wtm_at "sq") => `(tactic| first
  | assumption
  | (refine' Run.seq ?hx ?hy; (case hx => assumption); (case hy => assumption))
  | (refine' SqL.of ?hx; (case hx => wtm_at "hf"))
  | (refine' Same.seq ?hx ?hy; (case hx => assumption); (case hy => wtm_at "sq"))
  | (refine' Ext.seqL ?hx ?hz ?hy; (case hx => assumption); (case hy => wtm_at "sq"); (case hz => wtm_at "nin"))
  | fail)
local macro_rules | `(tactic| wtm_at "st") => `(tactic| first
  | assumption
  | (refine' SqT.of ?hx; (case hx => wtm_at "hf"))
  | fail)
local macro_rules | `(tactic| wtm_at "ix") => `(tactic| first
  | assumption
  | exact rfl
  | fail)
local macro_rules | `(tactic| wtm_at "sz") => `(tactic| first
  | wtm_at "rl"
  | with_reducible assumption
  | (rw [ik_len]; wtm_at "sz")
  | (rw [sk_len]; wtm_at "sz")
  | exact smallM (by assumption)
  | exact smallM (by omega)
  | exact smallM (by simp only [List.length_cons, List.length_nil, List.length_append, List.length_map]; omega)
  | fail)
local macro_rules | `(tactic| wtm_at "tx") => `(tactic| first
  | assumption
  | ((with_reducible refine' Tx.app ?hx ?hy); (case hx => wtm_at "tx"); (case hy => wtm_at "tx"))
  | ((with_reducible refine' Tx.cut ?hx); (case hx => wtm_at "tx"))
  | with_reducible exact Tx.nil
  | fail)
local macro_rules | `(tactic| wtm_at "k") => `(tactic| first
  | with_reducible refine k_seq ?_
  | with_reducible refine k_next ?_
  | with_reducible refine k_asg ?_
  | with_reducible refine k_ret ?_
  | with_reducible refine k_retN ?_
  | with_reducible refine k_asgS ?_
  | ((with_reducible refine' l_setL ?hr ?hx ?he ?h2 ?hw ?_); (case hr => wtm_at "run"); (case hx => wtm_at "hf"); (case he => exact rfl); (case h2 => exact rfl); (case hw => wtm_at "wr"); intro _ _ _ _)
  | with_reducible refine k_minD ?_
  | with_reducible refine k_drop ?_
  | with_reducible refine k_ifS ?_
  | ((with_reducible refine' k_var ?hx ?_); (case hx => exact rfl))
  | with_reducible refine k_c ?_
  | with_reducible refine k_negc ?_
  | with_reducible refine k_neg ?_
  | with_reducible refine l_neg ?_
  | with_reducible refine k_op ?_
  | with_reducible refine k_cb ?_
  | with_reducible refine k_nil ?_
  | with_reducible refine k_cons ?_
  | with_reducible refine k_test ?_
  | with_reducible refine k_B ?_
  | with_reducible refine k_not ?_
  | with_reducible refine k_and ?_
  | with_reducible refine k_or ?_
  | with_reducible refine k_notV ?_
  | with_reducible refine k_andV ?_
  | with_reducible refine k_orV ?_
  | with_reducible refine k_bl ?_
  | with_reducible refine k_add ?_
  | with_reducible refine k_sub ?_
  | ((with_reducible refine' k_mod ?hx ?_); (case hx => first | decide | omega))
  | ((with_reducible refine' k_div ?hx ?_); (case hx => first | exact ⟨by decide, by decide⟩ | exact ⟨by omega, by omega⟩))
  | ((with_reducible refine' k_mul ?hx ?_); (case hx => first | exact Or.inl ⟨by decide, by decide⟩ | exact Or.inr ⟨by decide, by decide⟩ | exact Or.inl ⟨by omega, by omega⟩))
  | with_reducible refine k_chain ?_
  | with_reducible refine k_p6 ?_
  | with_reducible refine k_p9 ?_
  | with_reducible refine k_p12 ?_
  | with_reducible refine k_p13 ?_
  | with_reducible refine k_p18 ?_
  | with_reducible refine k_p30 ?_
  | with_reducible refine k_lt ?_
  | with_reducible refine k_le ?_
  | with_reducible refine k_gt ?_
  | with_reducible refine k_ge ?_
  | with_reducible refine k_eq ?_
  | with_reducible refine k_ne ?_
  | with_reducible refine k_seqS ?_
  | with_reducible refine k_neS ?_
  | with_reducible refine k_neB ?_
  | with_reducible refine k_isN ?_
  | with_reducible refine k_noN ?_
  | with_reducible refine k_fld ?_
  | ((with_reducible refine' l_fld ?hx ?hy ?_); (case hx => wtm_at "hf"); (case hy => wtm_at "lk"))
  | with_reducible refine k_fldS ?_
  | ((with_reducible refine' l_fldS ?hr ?hx ?hz ?hy ?hw ?_); (case hr => wtm_at "run"); (case hx => wtm_at "hf"); (case hy => wtm_at "pt"); (case hz => wtm_at "lz"); (case hw => wtm_at "wr"); intro _ _ _ _)
  | ((with_reducible refine' l_new ?hr ?_); (case hr => wtm_at "run"); intro _ _ _ _ _ _ _ _)
  | with_reducible refine k_append ?_
  | ((with_reducible refine' l_tyL ?hx ?_); (case hx => wtm_at "hf"))
  | ((with_reducible refine' l_ins ?hx ?hy ?_); (case hx => wtm_at "hf"); (case hy => wtm_at "lm"))
  | with_reducible refine k_methS ?_
  | with_reducible refine k_methG ?_
  | with_reducible refine k_makeG ?_
  | with_reducible refine k_meth0 ?_
  | with_reducible refine k_callS ?_
  | with_reducible refine k_callE ?_
  | with_reducible refine k_dget ?_
  | with_reducible refine k_din ?_
  | with_reducible refine k_dnotin ?_
  | with_reducible refine k_dput ?_
  | with_reducible refine k_dpop ?_
  | with_reducible refine k_dget2 ?_
  | with_reducible refine k_tup ?_
  | with_reducible refine k_lst ?_
  | with_reducible refine k_dnew ?_
  | ((with_reducible refine' l_tup ?hx ?_); (case hx => simp only [List.length_cons, List.length_nil]; decide))
  | ((with_reducible refine' l_lst ?hx ?_); (case hx => simp only [List.length_cons, List.length_nil]; decide))
  | ((with_reducible refine' l_isD ?hx ?_); (case hx => wtm_at "hf"))
  | ((with_reducible refine' l_dinI ?hx ?_); (case hx => wtm_at "hf"))
  | ((with_reducible refine' l_dinS ?hx ?_); (case hx => wtm_at "hf"))
  | ((with_reducible refine' l_dnotinI ?hx ?_); (case hx => wtm_at "hf"))
  | ((with_reducible refine' l_dnotinS ?hx ?_); (case hx => wtm_at "hf"))
  | ((with_reducible refine' l_dputI ?hr ?hx ?hz ?hy ?hw ?_); (case hr => wtm_at "run"); (case hx => wtm_at "hf"); (case hy => wtm_at "pk"); (case hz => wtm_at "sz"); (case hw => wtm_at "wr"); intro _ _ _ _)
  | ((with_reducible refine' l_dputS ?hr ?hx ?hz ?hy ?hw ?_); (case hr => wtm_at "run"); (case hx => wtm_at "hf"); (case hy => wtm_at "pk"); (case hz => wtm_at "sz"); (case hw => wtm_at "wr"); intro _ _ _ _)
  | ((with_reducible refine' l_dpopI ?hr ?hx ?hz ?hy ?hw ?_); (case hr => wtm_at "run"); (case hx => wtm_at "hf"); (case hy => wtm_at "pk"); (case hz => wtm_at "vk"); (case hw => wtm_at "wr"); intro _ _ _ _)
  | ((with_reducible refine' l_dpopS ?hr ?hx ?hz ?hy ?hw ?_); (case hr => wtm_at "run"); (case hx => wtm_at "hf"); (case hy => wtm_at "pk"); (case hz => wtm_at "vk"); (case hw => wtm_at "wr"); intro _ _ _ _)
  | ((with_reducible refine' l_dgetI ?hx ?hz ?_); (case hx => wtm_at "hf"); (case hz => wtm_at "vk"))
  | ((with_reducible refine' l_dgetS ?hx ?hz ?_); (case hx => wtm_at "hf"); (case hz => wtm_at "vk"))
  | ((with_reducible refine' l_dgetIF ?hx ?hz ?_); (case hx => wtm_at "hf"); (case hz => wtm_at "vk"))
  | ((with_reducible refine' l_dgetSF ?hx ?hz ?_); (case hx => wtm_at "hf"); (case hz => wtm_at "vk"))
  | ((with_reducible refine' l_dgetZ ?hx ?hz ?_); (case hx => wtm_at "hf"); (case hz => wtm_at "vk"))
  | ((with_reducible refine' k_disp ?hr ?_); (case hr => wtm_at "run"); intro _ _ _ _ _ _ _ _)
  | with_reducible refine k_pcons ?_
  | with_reducible refine k_pnil ?_
  | ((with_reducible refine' l_disp ?hr ?hx ?hu ?hv ?hy ?hw ?_); (case hr => wtm_at "run"); (case hx => wtm_at "hf"); (case hu => exact rfl); (case hv => simp only [List.length_map, List.length_cons, List.length_nil]; decide); (case hy => wtm_at "rm"); (case hw => wtm_at "wr"); intro _ _ _ _)
  | ((with_reducible refine' l_append ?hr ?hx ?hz ?hw ?_); (case hr => wtm_at "run"); (case hx => wtm_at "hf"); (case hz => wtm_at "sz"); (case hw => wtm_at "wr"); intro _ _ _ _)
  | ((with_reducible refine' l_isEt ?hx ?_); (case hx => first | exact isD (ExcK.kit (by assumption) _ (by wtm_at "mem") _ (by wtm_at "mem")) | exact isC (ExcK.kit (by assumption) _ (by wtm_at "mem") _ (by wtm_at "mem")) (by decide)))
  | ((with_reducible refine' l_isEV ?hx ?_); (case hx => exact ExcK.kitV (by assumption) _ (by wtm_at "mem")))
  | ((with_reducible refine' l_isiI ?hx ?_); (case hx => first | rfl | assumption))
  | ((with_reducible refine' l_isiB ?hx ?_); (case hx => first | rfl | assumption))
  | with_reducible refine l_isiSS ?_
  | ((with_reducible refine' l_isiS ?hx ?_); (case hx => first | rfl | assumption))
  | ((with_reducible refine' l_isiL ?hx ?_); (case hx => wtm_at "hf"))
  | ((with_reducible refine' l_isiO ?hx ?hy ?hz ?_); (case hx => wtm_at "hf"); (case hy => assumption); (case hz => assumption))
  | ((with_reducible refine' l_isiT ?hx ?_); (case hx => wtm_at "hf"))
  | ((with_reducible refine' l_lenL ?hx ?_); (case hx => wtm_at "sq"))
  | ((with_reducible refine' l_lenT ?hx ?_); (case hx => wtm_at "st"))
  | ((with_reducible refine' l_lenDK ?hx ?_); (case hx => wtm_at "hf"))
  | ((with_reducible refine' l_ixL ?hx ?hy ?_); (case hx => wtm_at "sq"); (case hy => wtm_at "ix"))
  | ((with_reducible refine' l_ixT ?hx ?hy ?_); (case hx => wtm_at "st"); (case hy => wtm_at "ix"))
  | with_reducible refine k_m1 ?_
  | with_reducible refine l_strX ?_
  | with_reducible refine l_sw ?_
  | ((with_reducible refine' x_addS ?hx ?hy ?hz ?_); (case hx => wtm_at "tx"); (case hy => wtm_at "tx"); (case hz => decide))
  | ((with_reducible refine' x_slS ?hx ?hz ?_); (case hx => wtm_at "tx"); (case hz => decide))
  | ((with_reducible refine' x_lenX ?hx ?hz ?_); (case hx => wtm_at "tx"); (case hz => decide))
  | with_reducible refine l_max ?_
  | with_reducible refine l_min ?_
  | with_reducible refine l_abs ?_
  | with_reducible refine k_sl ?_
  | with_reducible refine k_part ?_
  | with_reducible refine l_part ?_
  | with_reducible refine k_nopart ?_
  | with_reducible refine k_yes ?_
  | ((with_reducible refine' l_slL ?hr ?hx ?_); (case hr => wtm_at "run"); (case hx => wtm_at "sq"); intro _ _ _ _ _ _ _ _)
  | with_reducible refine k_lcL ?_
  | with_reducible refine k_lcR ?_
  | with_reducible refine k_for ?_
  | with_reducible refine k_zip ?_
  | with_reducible refine k_rng1 ?_
  | with_reducible refine k_rng2 ?_
  | with_reducible refine k_rng3 ?_
  | with_reducible refine k_makeS ?_
  | ((with_reducible refine' l_make ?hr ?_); (case hr => wtm_at "run"); intro _ _ _ _ _ _ _ _ _)
  | with_reducible refine k_ntt ?_
  | with_reducible refine k_ntf ?_
  | with_reducible refine k_clear ?_
  | ((with_reducible refine' l_clear ?hr ?hx ?hw ?_); (case hr => wtm_at "run"); (case hx => wtm_at "hf"); (case hw => wtm_at "wr"); intro _ _ _ _)
  | with_reducible refine k_ift ?_
  | with_reducible refine k_iff ?_
  | with_reducible refine g_name ?_
  | with_reducible refine k_revL ?_
  | ((with_reducible refine' l_tupL ?hx ?_); (case hx => wtm_at "sq"))
  | with_reducible refine l_intB ?_
  | ((with_reducible refine' l_rev ?hx ?_); (case hx => wtm_at "sq"))
  | ((with_reducible refine' l_gT2 ?hn ?hx ?_); (case hn => exact rfl); (case hx => wtm_at "st"))
  | ((with_reducible refine' l_listL ?hx ?_); (case hx => wtm_at "sq"))
  | ((with_reducible refine' l_listT ?hx ?_); (case hx => wtm_at "st"))
  | fail)
local macro_rules | `(tactic| wtm_at "pk") => `(tactic| with_reducible exact putK_vv)
local macro_rules | `(tactic| wtm_at "vk") => `(tactic| exact valV_vv (by assumption))
/-- what a room keeps: every lease that has not ended has its ticks, keys are told once -/
structure ROk (R : RoomS) : Prop where
  sp : ∀ k e, aget R.L.ends k = some e → ∃ t, aget R.L.spans k = some t
  ne : (R.L.ends.map (·.1)).Nodup
  nk : (R.kept.map (·.1)).Nodup
noncomputable def RoomS.end1 (R : RoomS) (d : Int × Int) : RoomS := RoomS.free { R with L := R.L.drop d.2 } d.2 d.1
noncomputable def RoomS.wait (R : RoomS) (ticks : Int) : RoomS := { (R.L.due (R.now + ticks)).foldl RoomS.end1 R with now := R.now + ticks }
theorem free_kept {R : RoomS} {l t : Int} : (R.free l t).kept = (keysOf R.kept l).foldl adrop R.kept := foldCut_kept
theorem foldCut_L {tick : Int} : ∀ {l : List Str} {R : RoomS}, (l.foldl (fun R k => R.cutAt tick k) R).L = R.L ∧ (l.foldl (fun R k => R.cutAt tick k) R).now = R.now ∧ (l.foldl (fun R k => R.cutAt tick k) R).ws = R.ws ∧ (l.foldl (fun R k => R.cutAt tick k) R).met = R.met
  | [], R => ⟨rfl, rfl, rfl, rfl⟩
  | k :: l, R => foldCut_L (l := l) (R := R.cutAt tick k)
theorem free_L {R : RoomS} {l t : Int} : (R.free l t).L = R.L := foldCut_L.1
theorem nodup_foldDrop {α : Type} : ∀ {l : List Str} {kp : List (Str × α)}, (kp.map (·.1)).Nodup → ((l.foldl adrop kp).map (·.1)).Nodup
  | [], _, h => h
  | k :: l, kp, h => nodup_foldDrop (l := l) (kp := adrop kp k) (nodup_adrop h)
theorem ROk.drop {R : RoomS} (h : ROk R) {l : Int} : ROk { R with L := R.L.drop l } := by
  refine ⟨fun k e he => ?_, nodup_adrop h.ne, h.nk⟩
  have he : aget (adrop R.L.ends l) k = some e := he
  rw [aget_adrop] at he
  by_cases c : l = k
  · rw [if_pos c] at he; cases he
  · rw [if_neg c] at he
    obtain ⟨t, ht⟩ := h.sp k e he
    refine ⟨t, ?_⟩
    show aget (adrop R.L.spans l) k = some t
    rw [aget_adrop, if_neg c]; exact ht
theorem ROk.free {R : RoomS} (h : ROk R) {l t : Int} : ROk (R.free l t) := by
  refine ⟨?_, ?_, ?_⟩
  · rw [free_L]; exact h.sp
  · rw [free_L]; exact h.ne
  · rw [free_kept]; exact nodup_foldDrop h.nk
theorem free_rows {R : RoomS} {l t : Int} : (R.free l t).G.rows.length ≤ R.G.rows.length + R.kept.length := by
  have := foldCut_rows (tick := t) (l := keysOf R.kept l) (R := R)
  have := keysOf_len (kept := R.kept) (lease := l)
  show ((keysOf R.kept l).foldl (fun R k => R.cutAt t k) R).G.rows.length ≤ _
  omega
theorem free_klen {R : RoomS} {l t : Int} : (R.free l t).kept.length ≤ R.kept.length := by rw [free_kept]; exact len_foldDrop
theorem aget_foldDropI {α : Type} : ∀ {l : List Int} {kp : List (Int × α)} {y : Int}, y ∉ l → aget (l.foldl adrop kp) y = aget kp y
  | [], _, _, _ => rfl
  | k :: l, kp, y, h => by
    rw [List.mem_cons, not_or] at h
    refine (aget_foldDropI (l := l) (kp := adrop kp k) h.2).trans ?_
    rw [aget_adrop, if_neg (fun z => h.1 z.symm)]
theorem end1_ends {R : RoomS} {d : Int × Int} : (R.end1 d).L = R.L.drop d.2 := free_L
theorem end1_now {R : RoomS} {d : Int × Int} : (R.end1 d).now = R.now := foldCut_L.2.1
theorem foldEnd_ends : ∀ {l : List (Int × Int)} {R : RoomS}, (l.foldl RoomS.end1 R).L.ends = (l.map (·.2)).foldl adrop R.L.ends
  | [], R => rfl
  | d :: l, R => by
    refine (foldEnd_ends (l := l) (R := R.end1 d)).trans ?_
    rw [end1_ends]; rfl
theorem ROk.end1 {R : RoomS} (h : ROk R) {d : Int × Int} : ROk (R.end1 d) := (h.drop (l := d.2)).free
theorem foldEnd_ok : ∀ {l : List (Int × Int)} {R : RoomS}, ROk R → ROk (l.foldl RoomS.end1 R)
  | [], _, h => h
  | d :: l, R, h => foldEnd_ok (l := l) h.end1
theorem foldEnd_sz : ∀ {l : List (Int × Int)} {R : RoomS}, (l.foldl RoomS.end1 R).kept.length ≤ R.kept.length ∧ (l.foldl RoomS.end1 R).G.rows.length ≤ R.G.rows.length + l.length * R.kept.length
  | [], R => ⟨Nat.le_refl _, by show R.G.rows.length ≤ _; simp⟩
  | d :: l, R => by
    obtain ⟨a, b⟩ := foldEnd_sz (l := l) (R := R.end1 d)
    have c : (R.end1 d).kept.length ≤ R.kept.length := free_klen
    have e : (R.end1 d).G.rows.length ≤ R.G.rows.length + R.kept.length := free_rows
    refine ⟨Nat.le_trans a c, Nat.le_trans b ?_⟩
    have m := Nat.mul_le_mul_left l.length c
    rw [List.length_cons, Nat.succ_mul]
    omega
theorem foldEnd_now : ∀ {l : List (Int × Int)} {R : RoomS}, (l.foldl RoomS.end1 R).now = R.now
  | [], _ => rfl
  | d :: l, R => (foldEnd_now (l := l) (R := R.end1 d)).trans end1_now
theorem due_mem {L : LS} {til : Int} {d : Int × Int} (nd : (L.ends.map (·.1)).Nodup) (h : d ∈ L.due til) : aget L.ends d.2 = some d.1 := by
  have := (sortP_perm _).mem_iff.mp h
  obtain ⟨p, hp, rfl⟩ := List.mem_map.mp this
  exact aget_of_mem nd (List.mem_filter.mp hp).1
theorem due_nodup {L : LS} {til : Int} (nd : (L.ends.map (·.1)).Nodup) : ((L.due til).map (·.2)).Nodup := by
  have := (sortP_perm (L.dueRaw til)).map (·.2)
  refine this.nodup_iff.mpr ?_
  unfold LS.dueRaw
  rw [List.map_map]
  exact nd.sublist (List.Sublist.map _ List.filter_sublist)
theorem due_len {L : LS} {til : Int} : (L.due til).length ≤ L.ends.length := by
  unfold LS.due LS.dueRaw
  rw [(sortP_perm _).length_eq, List.length_map]
  exact List.length_filter_le _ _
section
variable {P : Program} {w : World} {K : PySem.W.Frag} {mg : Str → Option Value} {base : Heap}
def sp_Room_drop (K : PySem.W.Frag) : Sp := fun vs H Q E => ∃ p F R lease, vs = [.ref p, .int lease] ∧ RoomAt K H p F R ∧ ROk R ∧ R.kept.length ≤ 1000 ∧ R.G.rows.length + R.kept.length ≤ 900000 ∧
  (∀ e, aget R.L.ends lease = some e → ∀ H', RoomAt K H' p F (R.drop lease) → Ext F H H' → Q .non H') ∧ (aget R.L.ends lease = none → E (.ref (He.ga K "NoLease")) none H)
theorem sc_Room_drop : FnScope ["self", "lease"] ["self", "lease"] (defScope s_Room_drop) := ⟨rfl, rfl, rfl, by decide +kernel, rfl, by decide +kernel, by decide +kernel⟩
theorem ok_Room_drop (T : FX K mg) : FnOk P w K mg base (L2N.CX P w) 4 (He.ma K (He.ga K "Room") "drop") (fdAt K ("Room", some "drop")) ["self", "lease"] (sp_Room_drop K) := by
  refine FunD.ok T.F_Room_drop sc_Room_drop (fun vs H Q E h => ?_) (fun cdv A outer s H vs Q E hr h => ?_)
  · (repeat (obtain ⟨_, h⟩ := h)); subst_vars; rfl
  · have hu := hu_of hr
    have hu64 := hr.units
    refine ⟨_,
      (pss_cons
        (ps_expr (pe_methS (pe_fldC T.cl_Room T.na_Room_leases (pv 0)) T.cl_Leases T.me_Leases_drop (ok_Leases_drop T) (hr.mono (j := 2) (by decide)) T.b_Leases_drop (fun σ => L2N.passAt tkd σ) (pa_cons (pv 1) pa_nil)))
      (pss_one
        (ps_expr (pe_methS (pv 0) T.cl_Room T.me_Room_free (ok_Room_free T) (hr.mono (j := 3) (by decide)) T.b_Room_free (fun σ => L2N.passAt tkd σ) (pa_cons (pv 1) (pa_cons (pe_fldC T.cl_Room T.na_Room_now (pv 0)) pa_nil)))))), ?_⟩
    obtain ⟨p, F, R, lease, rfl, ⟨X, Fp, rfl, S⟩, ok, zk, zg, k1, k2⟩ := h
    obtain ⟨em, dx, hp⟩ := S.r .me
    obtain ⟨ps, pe, el, hl⟩ := S.r .le
    obtain ⟨⟨dl, h1⟩, h2, h3, hne⟩ := id hl
    repeat wtm_at "k"
    refine ⟨X.pl, ps, pe, R.L, lease, rfl, hl, fun e ce => ?_, k2⟩
    obtain ⟨t, ct⟩ := ok.sp _ _ ce
    refine ⟨t, ct, fun H1 hl1 e1 => ?_⟩
    have e' : Ext (Fp .le) H H1 := by rw [el]; exact e1
    have S1 : RIn K p X { R with L := R.L.drop lease } H1 Fp := RIn.keep .le S e' ⟨ps, pe, el, hl1⟩ prt_le
    obtain ⟨em1, dx1, hp1⟩ := S1.r .me
    repeat wtm_at "k"
    refine ⟨p, _, _, lease, R.now, rfl, ⟨X, Fp, rfl, S1⟩, ok.nk, zk, zg, fun H2 h2 e2 => ?_⟩
    repeat wtm_at "k"
    exact k1 e ce H2 h2 ((ext_flat e').trans e2)
def sp_Room_wait (K : PySem.W.Frag) : Sp := fun vs H Q E => ∃ p F R ticks, vs = [.ref p, .int ticks] ∧ RoomAt K H p F R ∧ ROk R ∧ R.kept.length ≤ 1000 ∧ R.L.ends.length ≤ 1000 ∧ R.G.rows.length + (R.L.ends.length + 1) * R.kept.length ≤ 900000 ∧
  (¬ (0 ≤ ticks ∧ ticks ≤ 1000000) → E (.ref (He.ga K "BadTicks")) none H) ∧ (0 ≤ ticks ∧ ticks ≤ 1000000 → ∀ H', RoomAt K H' p F (R.wait ticks) → Ext F H H' → Q .non H')
theorem sc_Room_wait : FnScope ["self", "ticks", "until", "end", "lease"] ["self", "ticks"] (defScope s_Room_wait) := ⟨rfl, rfl, rfl, by decide +kernel, rfl, by decide +kernel, by decide +kernel⟩
theorem ok_Room_wait (T : FX K mg) : FnOk P w K mg base (L2N.CX P w) 4 (He.ma K (He.ga K "Room") "wait") (fdAt K ("Room", some "wait")) ["self", "ticks"] (sp_Room_wait K) := by
  refine FunD.ok T.F_Room_wait sc_Room_wait (fun vs H Q E h => ?_) (fun cdv A outer s H vs Q E hr h => ?_)
  · (repeat (obtain ⟨_, h⟩ := h)); subst_vars; rfl
  · have hu := hu_of hr
    have hu64 := hr.units
    obtain ⟨tMT, hMT⟩ := T.i_MOST_TICKS
    refine ⟨_,
      (pss_cons
        (ps_if (PW.pt (pw_or (pt_cmpR oIlt (pv 1) pe_int (nomark _)) (pw_or1 (pt_cmpR oIgt (pv 1) (pe_globI rfl hMT) (nomark _)))))
          (pss_one
            (L2N.ps_raise rfl tkd (L2N.pmk_own PySem.F.excBase_ValueError T.x_BadTicks.1 T.g_BadTicks T.x_BadTicks.2.1 (raises_own T.x_BadTicks.2.2.1 T.x_BadTicks.2.2.2) rfl)))
          pss_nil)
      (pss_cons
        (ps_set (i := 2) sc_Room_wait.nd rfl (Or.inl rfl) (pe_op oIadd (pe_fldC T.cl_Room T.na_Room_now (pv 0)) (pv 1)))
      (pss_cons
        (ps_for pod rfl (pi_list (pe_methS (pe_fldC T.cl_Room T.na_Room_leases (pv 0)) T.cl_Leases T.me_Leases_due (ok_Leases_due T) (hr.mono (j := 1) (by decide)) T.b_Leases_due (fun σ => L2N.passAt tkd σ) (pa_cons (pv 2) pa_nil))) (pg_tup rfl (pgs_cons (pg_name (i := 3) sc_Room_wait.nd rfl (Or.inl rfl)) (pgs_cons (pg_name (i := 4) sc_Room_wait.nd rfl (Or.inl rfl)) pgs_nil)))
          (pss_cons
            (ps_expr (pe_methS (pe_fldC T.cl_Room T.na_Room_leases (pv 0)) T.cl_Leases T.me_Leases_drop (ok_Leases_drop T) (hr.mono (j := 2) (by decide)) T.b_Leases_drop (fun σ => L2N.passAt tkd σ) (pa_cons (pv 4) pa_nil)))
          (pss_one
            (ps_expr (pe_methS (pv 0) T.cl_Room T.me_Room_free (ok_Room_free T) (hr.mono (j := 3) (by decide)) T.b_Room_free (fun σ => L2N.passAt tkd σ) (pa_cons (pv 4) (pa_cons (pv 3) pa_nil)))))))
      (pss_one
        (ps_fldC T.cl_Room T.na_Room_now (pv 0) (pv 2)))))), ?_⟩
    obtain ⟨p, F, R, ticks, rfl, hR, ok, zk, ze, zg, k1, k2⟩ := h
    obtain ⟨X, Fp, rfl, S⟩ := id hR
    obtain ⟨em, dx, hp⟩ := S.r .me
    obtain ⟨ps, pe, el, hl⟩ := S.r .le
    obtain ⟨⟨dl, h1⟩, h2, h3, hne⟩ := id hl
    repeat wtm_at "k"
    refine k_ifd (fun c => k_ift (k1 (by omega))) fun c1 => ?_
    repeat wtm_at "k"
    refine k_ifd (fun c => k1 (by omega)) fun c2 => ?_
    have k2 := k2 ⟨by omega, by omega⟩
    repeat wtm_at "k"
    refine ⟨X.pl, ps, pe, R.L, R.now + ticks, rfl, hl, ze, ok.ne, fun l H1 ys nl e1 hl1 py => ?_⟩
    have hR1 : RoomAt K H1 p (flat Fp) R := hR.ext e1 (zero _)
    have nF : l ∉ flat Fp := fun z => hR.live l z nl
    have ndu := due_nodup (til := R.now + ticks) ok.ne
    have mdu : ∀ d ∈ R.L.due (R.now + ticks), aget R.L.ends d.2 = some d.1 := fun d hd => due_mem ok.ne hd
    have ldu := due_len (L := R.L) (til := R.now + ticks)
    unfold RoomS.wait at k2
    generalize R.L.due (R.now + ticks) = ds at *
    have ly := Paired.length py
    refine l_for (xs := ys) (SqL.of hl1) (fun i σ' H' => ∃ x3 x4, σ' = [some (.ref p), some (.int ticks), some (.int (R.now + ticks)), x3, x4] ∧ H' l = some (.lst ys) ∧ Ext (flat Fp) H H' ∧ Paired (IsP H') ys ds ∧ RoomAt K H' p (flat Fp) ((ds.take i).foldl RoomS.end1 R)) ?h0 ?hl ?hs ?hd
    case h0 => exact ⟨_, _, rfl, hl1, e1.sub (by simp), py, hR1⟩
    case hl => exact fun i σ' H' _ ⟨_, _, _, h, _⟩ => SqL.of h
    case hs =>
      intro i x σ' H3 ex ⟨x3, x4, es, h3, e3, p3, hR3⟩
      subst es
      obtain ⟨d, ed, t, rfl, ht⟩ := getT p3 ex
      have oki : ROk ((ds.take i).foldl RoomS.end1 R) := foldEnd_ok ok
      obtain ⟨sz1, sz2⟩ := foldEnd_sz (l := ds.take i) (R := R)
      have ge : aget ((ds.take i).foldl RoomS.end1 R).L.ends d.2 = some d.1 := by
        rw [foldEnd_ends, aget_foldDropI]
        · exact mdu d (List.mem_of_getElem? ed)
        · rw [List.map_take]
          exact take_notin ndu (by rw [List.getElem?_map, ed]; rfl)
      have lti := List.length_take_le' i ds
      have mm := Nat.mul_le_mul_right R.kept.length (Nat.le_trans lti ldu)
      rw [Nat.succ_mul] at zg
      rw [show (ds.take (i + 1)).foldl RoomS.end1 R = ((ds.take i).foldl RoomS.end1 R).end1 d from foldl_snoc ed]
      generalize (ds.take i).foldl RoomS.end1 R = Ri at *
      obtain ⟨X3, Fp3, eF3, S3⟩ := id hR3
      obtain ⟨em3, dx3, hp3⟩ := S3.r .me
      obtain ⟨ps3, pe3, el3, hl3⟩ := S3.r .le
      obtain ⟨⟨dl3, q1⟩, q2, q3, qne⟩ := id hl3
      repeat wtm_at "k"
      refine ⟨X3.pl, ps3, pe3, Ri.L, d.2, rfl, hl3, fun e ce => ?_, fun z => by rw [z] at ge; cases ge⟩
      obtain ⟨t2, ct2⟩ := oki.sp _ _ ge
      refine ⟨t2, ct2, fun H4 hl4 e4 => ?_⟩
      have e' : Ext (Fp3 .le) H3 H4 := by rw [el3]; exact e4
      have S4 : RIn K p X3 { Ri with L := Ri.L.drop d.2 } H4 Fp3 := RIn.keep .le S3 e' ⟨ps3, pe3, el3, hl4⟩ prt_le
      obtain ⟨em4, dx4, hp4⟩ := S4.r .me
      repeat wtm_at "k"
      refine ⟨p, _, _, d.2, d.1, rfl, ⟨X3, Fp3, rfl, S4⟩, oki.nk, ?_, ?_, fun H5 h5 e5 => ?_⟩
      · show Ri.kept.length ≤ 1000; omega
      · show Ri.G.rows.length + Ri.kept.length ≤ 900000; omega
      have x35 : Ext (flat Fp3) H3 H5 := (ext_flat e').trans e5
      rw [← eF3] at x35 h5
      exact ⟨_, _, rfl, x35.keep _ _ h3 nF, e3.trans x35, keepT x35.tups p3, h5⟩
    case hd =>
      rintro σ' H3 ⟨x3, x4, rfl, h3, e3, p3, hR3⟩
      have e : ds.take ys.length = ds := by rw [ly, List.take_length]
      rw [e] at hR3
      obtain ⟨X3, Fp3, eF3, S3⟩ := id hR3
      obtain ⟨em3, dx3, hp3⟩ := S3.r .me
      have R3 : Run [p] H3 H3 := Run.start (by wtm_at "lv")
      repeat wtm_at "k"
      rename_i H4 r4 b4 n4
      have e' : Ext (Fp3 .me) H3 H4 := by rw [em3]; exact r4.ext
      have S4 : RIn K p X3 { ds.foldl RoomS.end1 R with now := R.now + ticks } H4 Fp3 := RIn.keep .me S3 e' ⟨em3, dx3, b4⟩ prt_me
      have x34 := ext_flat e'
      rw [← eF3] at x34
      exact k2 H4 ⟨X3, Fp3, eF3, S4⟩ (e3.trans x34)
def sp_Room_pairs (K : PySem.W.Frag) : Sp := fun vs H Q _ => ∃ p F R pre n, vs = [.ref p, .str pre] ∧ RoomAt K H p F R ∧ (R.kept.map (·.1)).Nodup ∧ Tx n pre ∧ R.kept.length ≤ 1000 ∧
  ∀ l H' ys, H l = none → Ext [] H H' → H' l = some (.lst ys) → Paired (IsS H') ys (pairsOf R.kept pre) → Q (.ref l) H'
theorem sc_Room_pairs : FnScope ["self", "prefix", "key"] ["self", "prefix"] (defScope s_Room_pairs) := ⟨rfl, rfl, rfl, by decide +kernel, rfl, by decide +kernel, by decide +kernel⟩
theorem ok_Room_pairs (T : FX K mg) : FnOk P w K mg base (L2N.CX P w) 1 (He.ma K (He.ga K "Room") "pairs") (fdAt K ("Room", some "pairs")) ["self", "prefix"] (sp_Room_pairs K) := by
  refine FunD.ok T.F_Room_pairs sc_Room_pairs (fun vs H Q E h => ?_) (fun cdv A outer s H vs Q E hr h => ?_)
  · (repeat (obtain ⟨_, h⟩ := h)); subst_vars; rfl
  · have hu := hu_of hr
    have hu64 := hr.units
    refine ⟨_,
      (pss_one
        (ps_ret (pe_lc (own := [("key", 2)]) (g := gName 2) rfl sc_Room_pairs.nd (pi_list (pe_callB (oSortD rfl) (by rfl) T.f_sorted (by decide +kernel) (pa_cons (pe_fldC T.cl_Room T.na_Room_kept (pv 0)) pa_nil))) (blkOk_by (N := ["self", "prefix", "key"]) (sc := defScope s_Room_pairs) (by decide +kernel)) (fun _ _ _ _ _ => (pg_name (i := 2) sc_Room_pairs.nd rfl (Or.inl rfl))) (fun _ _ _ _ _ => (pts_one (pt_val (pe_m1 PySem.F.slot_str_startswith PySem.F.type_str_startswith oSW (pv 2) (pv 1))))) (fun _ _ _ _ _ => (pe_tup (pa_cons (pv 2) (pa_cons (pe_ix (ix_tupK (K := K) rfl) (pe_dget hu (pe_fldC T.cl_Room T.na_Room_kept (pv 0)) (pv 2) (fun _ _ => rfl)) pe_int (fun _ _ => rfl)) pa_nil))))))), ?_⟩
    obtain ⟨p, F, R, pre, n, rfl, ⟨X, Fp, rfl, S⟩, nd, tx, zk, k⟩ := h
    obtain ⟨em, dx, hp⟩ := S.r .me
    obtain ⟨ek, ok, kl, hk, pk⟩ := S.r .ke
    have lk := kl_len pk
    have R0 : Run [] H H := Run.start Live.nil
    repeat wtm_at "k"
    refine l_sortD R0 hk fun l H1 u1 u2 u3 r1 g1 s1 => ?_
    rw [kl_keys pk] at g1
    repeat wtm_at "k"
    have mks : ∀ y ∈ sortS (R.kept.map (·.1)), ∃ x, aget R.kept y = some x := fun y hy => by
      have := (sortS_perm _).mem_iff.mp hy
      cases ca : aget R.kept y with
      | none => exact absurd this (aget_none.mp ca)
      | some v => exact ⟨v, rfl⟩
    have zks : (sortS (R.kept.map (·.1))).length ≤ 1000 := by rw [(sortS_perm _).length_eq, List.length_map]; exact zk
    unfold pairsOf at k
    generalize sortS (R.kept.map (·.1)) = ks at *
    refine l_lcL (j := 2) (xs := ks.map V.str) (SqL.of g1) (by rw [List.length_map]; exact smallM (by omega)) (fun i acc H' => Paired (IsS H') acc (((ks.take i).filter fun y => begins y pre).map fun y => ssOf (y, ((aget R.kept y).getD (Str.empty, 0)).1))) .nil (fun i acc H1 H2 t h => keepT t h) (fun i x acc H5 R' R0' ex e5 hl hP q1 q0 => ?_) (fun D H5 acc nD e5 hD lD hP => ?_)
    · obtain ⟨y, ey, rfl⟩ := getM ex
      obtain ⟨x0, ex0⟩ := mks y (List.mem_of_getElem? ey)
      obtain ⟨v0, ev0, t0, rfl, hv0⟩ := kl_some pk ex0
      have ve0 := valV_vv ev0
      have x15 : Ext [] H H5 := r1.ext.trans e5
      have hp5 := x15.keep _ _ hp (by simp)
      have hk5 := x15.keep _ _ hk (by simp)
      have ht5 := x15.tups _ _ hv0
      have R5 : Run [] H5 H5 := Run.start Live.nil
      repeat wtm_at "k"
      refine k_if (fun c => ?_) fun c => ?_
      · repeat wtm_at "k"
        rename_i t H6 w1 w2 w3 r6 g6 s6
        refine q1 _ _ r6.ext ?_
        rw [filter_take_snoc ey, if_pos c, List.map_append]
        refine snocT (keepT r6.ext.tups hP) ⟨t, rfl, ?_⟩
        show H6 t = some (.tup (fS (ssOf (y, ((aget R.kept y).getD (Str.empty, 0)).1))))
        rw [ex0, Option.getD_some, ssOf_eq (ok _ (aget_some_mem ex0))]
        exact g6
      · refine q0 _ (Ext.refl _ _) ?_
        rw [filter_take_snoc ey, if_neg (by rw [c]; exact Bool.false_ne_true), List.append_nil]
        exact hP
    · refine k D H5 acc (r1.ext.free nD (by simp)) (r1.ext.trans e5) hD ?_
      have e : ks.take (ks.map V.str).length = ks := by rw [List.length_map, List.take_length]
      rw [e] at hP
      exact hP
end
end LW

set_option maxHeartbeats 4000000
namespace LW
open PySem PySem.Spec PyProof.Rows L2
local macro_rules | `(tactic| wtm_at "vk") => `(tactic| first
  | assumption
  | with_reducible exact rv_mf_given
  | with_reducible exact rv_mf_free
  | exact valV_sv (by assumption)
  | exact valV_iv (by assumption)
  | fail)
local macro_rules | `(tactic| wtm_at "pk") => `(tactic| first
  | with_reducible exact putK_iv
  | with_reducible exact dropK_ik
  | with_reducible exact dropK_sk
  | with_reducible exact rp_mf_given
  | with_reducible exact rp_mf_free
  | exact putK_sv
  | assumption
  | fail)
local macro_rules | `(tactic| wtm_at "rm") => `(tactic| first
  | with_reducible exact rm_mf
  | exact rfl
  | fail)
local macro_rules | `(tactic| wtm_at "rl") => `(tactic| first
  | with_reducible exact rl_mf
  | with_reducible assumption
  | fail)
local macro_rules | `(tactic| wtm_at "lk") => `(tactic| with_reducible first
  | exact lk_Ear_behind
  | exact lk_Ear_begun
  | exact lk_Ear_rows
  | exact lk_Line_room
  | exact lk_Line_watcher
  | exact lk_Line_ear
  | exact lk_Leases_given
  | exact lk_Leases_spans
  | exact lk_Leases_ends
  | exact lk_Log_rows
  | exact lk_Log_gone
  | exact lk_Watcher_prefix
  | exact lk_Watcher_had
  | exact lk_Watcher_told
  | exact lk_Room_now
  | exact lk_Room_leases
  | exact lk_Room_log
  | exact lk_Room_kept
  | exact lk_Room_watchers
  | exact lk_Room_met
  | fail)
local macro_rules | `(tactic| wtm_at "lm") => `(tactic| with_reducible first
  | exact lm_Ear_hear
  | exact lm_Ear_heard
  | exact lm_Ear_state
  | exact lm_Line_turn
  | exact lm_Leases_grant
  | exact lm_Leases_need
  | exact lm_Leases_renew
  | exact lm_Leases_drop
  | exact lm_Leases_due
  | exact lm_Log_note
  | exact lm_Log_last
  | exact lm_Log_first
  | exact lm_Log_wanted
  | exact lm_Log_forget
  | exact lm_Room_grant
  | exact lm_Room_renew
  | exact lm_Room_drop
  | exact lm_Room_wait
  | exact lm_Room_free
  | exact lm_Room_put
  | exact lm_Room_cut
  | exact lm_Room_value
  | exact lm_Room_holder
  | exact lm_Room_pairs
  | exact lm_Room_last
  | exact lm_Room_first
  | exact lm_Room_watch
  | exact lm_Room_need
  | exact lm_Room_pull
  | exact lm_Room_confirm
  | exact lm_Room_broken
  | exact lm_Room_leave
  | exact lm_Room_trim
  | fail)
local macro_rules | `(tactic| wtm_at "pt") => `(tactic| with_reducible first
  | exact pt_Ear_behind
  | exact pt_Ear_begun
  | exact pt_Ear_rows
  | exact pi_Ear_0
  | exact pi_Ear_1
  | exact pi_Ear_2
  | exact pt_Line_room
  | exact pt_Line_watcher
  | exact pt_Line_ear
  | exact pi_Line_0
  | exact pi_Line_1
  | exact pi_Line_2
  | exact pt_Leases_given
  | exact pt_Leases_spans
  | exact pt_Leases_ends
  | exact pi_Leases_0
  | exact pi_Leases_1
  | exact pi_Leases_2
  | exact pt_Log_rows
  | exact pt_Log_gone
  | exact pi_Log_0
  | exact pi_Log_1
  | exact pt_Watcher_prefix
  | exact pt_Watcher_had
  | exact pt_Watcher_told
  | exact pi_Watcher_0
  | exact pi_Watcher_1
  | exact pi_Watcher_2
  | exact pt_Room_now
  | exact pt_Room_leases
  | exact pt_Room_log
  | exact pt_Room_kept
  | exact pt_Room_watchers
  | exact pt_Room_met
  | exact pi_Room_0
  | exact pi_Room_1
  | exact pi_Room_2
  | exact pi_Room_3
  | exact pi_Room_4
  | exact pi_Room_5
  | fail)
local macro_rules | `(tactic| wtm_at "lz") => `(tactic| with_reducible first
  | exact lz_Ear
  | exact lz_Line
  | exact lz_Leases
  | exact lz_Log
  | exact lz_Watcher
  | exact lz_Room
  | (simp only [List.length_cons, List.length_nil]; decide)
  | exact (by decide)
  | fail)
local macro_rules | `(tactic| wtm_at "hf") => `(tactic| first
  | assumption
  | (refine' hf_s ?hs ?hx; (case hs => assumption); (case hx => wtm_at "hf"))
  | (refine' hf_n ?hs ?hx ?ne; (case hs => assumption); (case hx => wtm_at "hf"); (case ne => wtm_at "ne"))
  | (refine' hf_e ?hs ?hx ?hy; (case hs => assumption); (case hx => wtm_at "hf"); (case hy => wtm_at "nin"))
  | fail)
local macro_rules | `(tactic| wtm_at "ne") => `(tactic| first
  | assumption
  | (apply Ne.symm; assumption)
  | (refine' ne_of_none ?hx ?hy; (case hy => assumption); (case hx => wtm_at "hf"))
  | (refine' (ne_of_none ?hx ?hy).symm; (case hy => assumption); (case hx => wtm_at "hf"))
  | (refine' ne_of ?hx ?hy ?hz; (case hx => assumption); (case hy => assumption); (case hz => intro z; cases z))
  | fail)
local macro_rules | `(tactic| wtm_at "nin") => `(tactic| first
  | assumption
  | exact notin_nil
  | (refine' notin_cons ?hx ?hy; (case hx => wtm_at "ne"); (case hy => wtm_at "nin"))
  | fail)
local macro_rules | `(tactic| wtm_at "mem") => `(tactic| first
  | assumption
  | exact List.mem_cons_self
  | (refine' List.mem_cons_of_mem _ ?hx; (case hx => wtm_at "mem"))
  | fail)
local macro_rules | `(tactic| wtm_at "wr") => `(tactic| first
  | exact Or.inr (by assumption)
  | exact Or.inl (by wtm_at "mem")
  | fail)
local macro_rules | `(tactic| wtm_at "lv") => `(tactic| first
  | assumption
  | exact Live.nil
  | (refine' Live.cons ?hx ?hy; (case hx => wtm_at "hf"); (case hy => wtm_at "lv"))
  | fail)
local macro_rules | `(tactic| wtm_at "run") => `(tactic| first
  | assumption
  | (refine' Run.same ?hx ?hy; (case hy => assumption); (case hx => wtm_at "run"))
  | fail)
local macro_rules | `(tactic| wtm_at "sq") => `(tactic| first
  | assumption
  | (refine' Run.seq ?hx ?hy; (case hx => assumption); (case hy => assumption))
  | (refine' SqL.of ?hx; (case hx => wtm_at "hf"))
  | (refine' Same.seq ?hx ?hy; (case hx => assumption); (case hy => wtm_at "sq"))
  | (refine' Ext.seqL ?hx ?hz ?hy; (case hx => assumption); (case hy => wtm_at "sq"); (case hz => wtm_at "nin"))
  | fail)
local macro_rules | `(tactic| wtm_at "st") => `(tactic| first
  | assumption
  | (refine' SqT.of ?hx; (case hx => wtm_at "hf"))
  | fail)
local macro_rules | `(tactic| wtm_at "ix") => `(tactic| first
  | assumption
  | exact rfl
  | fail)
local macro_rules | `(tactic| wtm_at "sz") => `(tactic| first
  | wtm_at "rl"
  | with_reducible assumption
  | (rw [ik_len]; wtm_at "sz")
  | (rw [sk_len]; wtm_at "sz")
  | exact smallM (by assumption)
  | exact smallM (by omega)
  | exact smallM (by simp only [List.length_cons, List.length_nil, List.length_append, List.length_map]; omega)
  | fail)
local macro_rules | `(tactic| wtm_at "tx") => `(tactic| first
  | assumption
  | ((with_reducible refine' Tx.app ?hx ?hy); (case hx => wtm_at "tx"); (case hy => wtm_at "tx"))
  | ((with_reducible refine' Tx.cut ?hx); (case hx => wtm_at "tx"))
  | with_reducible exact Tx.nil
  | fail)
local macro_rules | `(tactic| wtm_at "k") => `(tactic| first
  | with_reducible refine k_seq ?_
  | with_reducible refine k_next ?_
  | with_reducible refine k_asg ?_
  | with_reducible refine k_ret ?_
  | with_reducible refine k_retN ?_
  | with_reducible refine k_asgS ?_
  | ((with_reducible refine' l_setL ?hr ?hx ?he ?h2 ?hw ?_); (case hr => wtm_at "run"); (case hx => wtm_at "hf"); (case he => exact rfl); (case h2 => exact rfl); (case hw => wtm_at "wr"); intro _ _ _ _)
  | with_reducible refine k_minD ?_
  | with_reducible refine k_drop ?_
  | with_reducible refine k_ifS ?_
  | ((with_reducible refine' k_var ?hx ?_); (case hx => exact rfl))
  | with_reducible refine k_c ?_
  | with_reducible refine k_negc ?_
  | with_reducible refine k_neg ?_
  | with_reducible refine l_neg ?_
  | with_reducible refine k_op ?_
  | with_reducible refine k_cb ?_
  | with_reducible refine k_nil ?_
  | with_reducible refine k_cons ?_
  | with_reducible refine k_test ?_
  | with_reducible refine k_B ?_
  | with_reducible refine k_not ?_
  | with_reducible refine k_and ?_
  | with_reducible refine k_or ?_
  | with_reducible refine k_notV ?_
  | with_reducible refine k_andV ?_
  | with_reducible refine k_orV ?_
  | with_reducible refine k_bl ?_
  | with_reducible refine k_add ?_
  | with_reducible refine k_sub ?_
  | ((with_reducible refine' k_mod ?hx ?_); (case hx => first | decide | omega))
  | ((with_reducible refine' k_div ?hx ?_); (case hx => first | exact ⟨by decide, by decide⟩ | exact ⟨by omega, by omega⟩))
  | ((with_reducible refine' k_mul ?hx ?_); (case hx => first | exact Or.inl ⟨by decide, by decide⟩ | exact Or.inr ⟨by decide, by decide⟩ | exact Or.inl ⟨by omega, by omega⟩))
  | with_reducible refine k_chain ?_
  | with_reducible refine k_p6 ?_
  | with_reducible refine k_p9 ?_
  | with_reducible refine k_p12 ?_
  | with_reducible refine k_p13 ?_
  | with_reducible refine k_p18 ?_
  | with_reducible refine k_p30 ?_
  | with_reducible refine k_lt ?_
  | with_reducible refine k_le ?_
  | with_reducible refine k_gt ?_
  | with_reducible refine k_ge ?_
  | with_reducible refine k_eq ?_
  | with_reducible refine k_ne ?_
  | with_reducible refine k_seqS ?_
  | with_reducible refine k_neS ?_
  | with_reducible refine k_neB ?_
  | with_reducible refine k_isN ?_
  | with_reducible refine k_noN ?_
  | with_reducible refine k_fld ?_
  | ((with_reducible refine' l_fld ?hx ?hy ?_); (case hx => wtm_at "hf"); (case hy => wtm_at "lk"))
  | with_reducible refine k_fldS ?_
  | ((with_reducible refine' l_fldS ?hr ?hx ?hz ?hy ?hw ?_); (case hr => wtm_at "run"); (case hx => wtm_at "hf"); (case hy => wtm_at "pt"); (case hz => wtm_at "lz"); (case hw => wtm_at "wr"); intro _ _ _ _)
  | ((with_reducible refine' l_new ?hr ?_); (case hr => wtm_at "run"); intro _ _ _ _ _ _ _ _)
  | with_reducible refine k_append ?_
  | ((with_reducible refine' l_tyL ?hx ?_); (case hx => wtm_at "hf"))
  | ((with_reducible refine' l_ins ?hx ?hy ?_); (case hx => wtm_at "hf"); (case hy => wtm_at "lm"))
  | with_reducible refine k_methS ?_
  | with_reducible refine k_methG ?_
  | with_reducible refine k_makeG ?_
  | with_reducible refine k_meth0 ?_
  | with_reducible refine k_callS ?_
  | with_reducible refine k_callE ?_
  | with_reducible refine k_dget ?_
  | with_reducible refine k_din ?_
  | with_reducible refine k_dnotin ?_
  | with_reducible refine k_dput ?_
  | with_reducible refine k_dpop ?_
  | with_reducible refine k_dget2 ?_
  | with_reducible refine k_tup ?_
  | with_reducible refine k_lst ?_
  | with_reducible refine k_dnew ?_
  | ((with_reducible refine' l_tup ?hx ?_); (case hx => simp only [List.length_cons, List.length_nil]; decide))
  | ((with_reducible refine' l_lst ?hx ?_); (case hx => simp only [List.length_cons, List.length_nil]; decide))
  | ((with_reducible refine' l_isD ?hx ?_); (case hx => wtm_at "hf"))
  | ((with_reducible refine' l_dinI ?hx ?_); (case hx => wtm_at "hf"))
  | ((with_reducible refine' l_dinS ?hx ?_); (case hx => wtm_at "hf"))
  | ((with_reducible refine' l_dnotinI ?hx ?_); (case hx => wtm_at "hf"))
  | ((with_reducible refine' l_dnotinS ?hx ?_); (case hx => wtm_at "hf"))
  | ((with_reducible refine' l_dputI ?hr ?hx ?hz ?hy ?hw ?_); (case hr => wtm_at "run"); (case hx => wtm_at "hf"); (case hy => wtm_at "pk"); (case hz => wtm_at "sz"); (case hw => wtm_at "wr"); intro _ _ _ _)
  | ((with_reducible refine' l_dputS ?hr ?hx ?hz ?hy ?hw ?_); (case hr => wtm_at "run"); (case hx => wtm_at "hf"); (case hy => wtm_at "pk"); (case hz => wtm_at "sz"); (case hw => wtm_at "wr"); intro _ _ _ _)
  | ((with_reducible refine' l_dpopI ?hr ?hx ?hz ?hy ?hw ?_); (case hr => wtm_at "run"); (case hx => wtm_at "hf"); (case hy => wtm_at "pk"); (case hz => wtm_at "vk"); (case hw => wtm_at "wr"); intro _ _ _ _)
  | ((with_reducible refine' l_dpopS ?hr ?hx ?hz ?hy ?hw ?_); (case hr => wtm_at "run"); (case hx => wtm_at "hf"); (case hy => wtm_at "pk"); (case hz => wtm_at "vk"); (case hw => wtm_at "wr"); intro _ _ _ _)
  | ((with_reducible refine' l_dgetI ?hx ?hz ?_); (case hx => wtm_at "hf"); (case hz => wtm_at "vk"))
  | ((with_reducible refine' l_dgetS ?hx ?hz ?_); (case hx => wtm_at "hf"); (case hz => wtm_at "vk"))
  | ((with_reducible refine' l_dgetIF ?hx ?hz ?_); (case hx => wtm_at "hf"); (case hz => wtm_at "vk"))
  | ((with_reducible refine' l_dgetSF ?hx ?hz ?_); (case hx => wtm_at "hf"); (case hz => wtm_at "vk"))
  | ((with_reducible refine' l_dgetZ ?hx ?hz ?_); (case hx => wtm_at "hf"); (case hz => wtm_at "vk"))
  | ((with_reducible refine' k_disp ?hr ?_); (case hr => wtm_at "run"); intro _ _ _ _ _ _ _ _)
  | with_reducible refine k_pcons ?_
  | with_reducible refine k_pnil ?_
  | ((with_reducible refine' l_disp ?hr ?hx ?hu ?hv ?hy ?hw ?_); (case hr => wtm_at "run"); (case hx => wtm_at "hf"); (case hu => exact rfl); (case hv => simp only [List.length_map, List.length_cons, List.length_nil]; decide); (case hy => wtm_at "rm"); (case hw => wtm_at "wr"); intro _ _ _ _)
  | ((with_reducible refine' l_append ?hr ?hx ?hz ?hw ?_); (case hr => wtm_at "run"); (case hx => wtm_at "hf"); (case hz => wtm_at "sz"); (case hw => wtm_at "wr"); intro _ _ _ _)
  | ((with_reducible refine' l_isEt ?hx ?_); (case hx => first | exact isD (ExcK.kit (by assumption) _ (by wtm_at "mem") _ (by wtm_at "mem")) | exact isC (ExcK.kit (by assumption) _ (by wtm_at "mem") _ (by wtm_at "mem")) (by decide)))
  | ((with_reducible refine' l_isEV ?hx ?_); (case hx => exact ExcK.kitV (by assumption) _ (by wtm_at "mem")))
  | ((with_reducible refine' l_isiI ?hx ?_); (case hx => first | rfl | assumption))
  | ((with_reducible refine' l_isiB ?hx ?_); (case hx => first | rfl | assumption))
  | with_reducible refine l_isiSS ?_
  | ((with_reducible refine' l_isiS ?hx ?_); (case hx => first | rfl | assumption))
  | ((with_reducible refine' l_isiL ?hx ?_); (case hx => wtm_at "hf"))
  | ((with_reducible refine' l_isiO ?hx ?hy ?hz ?_); (case hx => wtm_at "hf"); (case hy => assumption); (case hz => assumption))
  | ((with_reducible refine' l_isiT ?hx ?_); (case hx => wtm_at "hf"))
  | ((with_reducible refine' l_lenL ?hx ?_); (case hx => wtm_at "sq"))
  | ((with_reducible refine' l_lenT ?hx ?_); (case hx => wtm_at "st"))
  | ((with_reducible refine' l_lenDK ?hx ?_); (case hx => wtm_at "hf"))
  | ((with_reducible refine' l_ixL ?hx ?hy ?_); (case hx => wtm_at "sq"); (case hy => wtm_at "ix"))
  | ((with_reducible refine' l_ixT ?hx ?hy ?_); (case hx => wtm_at "st"); (case hy => wtm_at "ix"))
  | with_reducible refine k_m1 ?_
  | with_reducible refine l_strX ?_
  | with_reducible refine l_sw ?_
  | ((with_reducible refine' x_addS ?hx ?hy ?hz ?_); (case hx => wtm_at "tx"); (case hy => wtm_at "tx"); (case hz => decide))
  | ((with_reducible refine' x_slS ?hx ?hz ?_); (case hx => wtm_at "tx"); (case hz => decide))
  | ((with_reducible refine' x_lenX ?hx ?hz ?_); (case hx => wtm_at "tx"); (case hz => decide))
  | with_reducible refine l_max ?_
  | with_reducible refine l_min ?_
  | with_reducible refine l_abs ?_
  | with_reducible refine k_sl ?_
  | with_reducible refine k_part ?_
  | with_reducible refine l_part ?_
  | with_reducible refine k_nopart ?_
  | with_reducible refine k_yes ?_
  | ((with_reducible refine' l_slL ?hr ?hx ?_); (case hr => wtm_at "run"); (case hx => wtm_at "sq"); intro _ _ _ _ _ _ _ _)
  | with_reducible refine k_lcL ?_
  | with_reducible refine k_lcR ?_
  | with_reducible refine k_for ?_
  | with_reducible refine k_zip ?_
  | with_reducible refine k_rng1 ?_
  | with_reducible refine k_rng2 ?_
  | with_reducible refine k_rng3 ?_
  | with_reducible refine k_makeS ?_
  | ((with_reducible refine' l_make ?hr ?_); (case hr => wtm_at "run"); intro _ _ _ _ _ _ _ _ _)
  | with_reducible refine k_ntt ?_
  | with_reducible refine k_ntf ?_
  | with_reducible refine k_clear ?_
  | ((with_reducible refine' l_clear ?hr ?hx ?hw ?_); (case hr => wtm_at "run"); (case hx => wtm_at "hf"); (case hw => wtm_at "wr"); intro _ _ _ _)
  | with_reducible refine k_ift ?_
  | with_reducible refine k_iff ?_
  | with_reducible refine g_name ?_
  | with_reducible refine k_revL ?_
  | ((with_reducible refine' l_tupL ?hx ?_); (case hx => wtm_at "sq"))
  | with_reducible refine l_intB ?_
  | ((with_reducible refine' l_rev ?hx ?_); (case hx => wtm_at "sq"))
  | ((with_reducible refine' l_gT2 ?hn ?hx ?_); (case hn => exact rfl); (case hx => wtm_at "st"))
  | ((with_reducible refine' l_listL ?hx ?_); (case hx => wtm_at "sq"))
  | ((with_reducible refine' l_listT ?hx ?_); (case hx => wtm_at "st"))
  | fail)
theorem putK_aw {l : List (Int × Addr)} {k : Int} {a : Addr} : putK (ik aw l) (Sum.inl k : Key) (.ref a) = ik aw (aput l k a) := putK_ik rfl fun _ _ _ => rfl
theorem valV_aw {l : List (Int × Addr)} {k : Int} {a : Addr} (h : aget l k = some a) : valV (ik aw l) (Sum.inl k : Key) = some (.ref a) := by rw [valV_ik, h]; rfl
local macro_rules | `(tactic| wtm_at "pk") => `(tactic| with_reducible exact putK_aw)
local macro_rules | `(tactic| wtm_at "vk") => `(tactic| exact valV_aw (by assumption))
section
variable {K : PySem.W.Frag} {H : Hp} {wl : List (Int × Addr)} {ws : List (Int × WatS)}
theorem wl_none (h : Paired (WatAt K H) wl ws) {k : Int} : aget wl k = none ↔ aget ws k = none := by
  induction h with
  | nil => exact ⟨fun _ => rfl, fun _ => rfl⟩
  | cons a t ih =>
    rw [aget_cons, aget_cons, a.1]
    split
    · constructor <;> intro z <;> cases z
    · exact ih
theorem wl_some (h : Paired (WatAt K H) wl ws) {k : Int} {x : WatS} (e : aget ws k = some x) : ∃ a, aget wl k = some a ∧ ∃ dx, H a = some (.ins (He.ga K "Watcher") dx (fl_Watcher (.str x.pre) (.int x.had) (.int x.told))) := by
  induction h with
  | nil => cases e
  | cons a t ih =>
    rw [aget_cons] at e ⊢
    rw [a.1]
    split at e
    · rename_i c
      rw [if_pos c]
      obtain ⟨_, dx, q⟩ := a
      exact ⟨_, rfl, dx, by rw [← Option.some.inj e]; exact q⟩
    · rename_i c
      rw [if_neg c]; exact ih e
theorem wl_drop (h : Paired (WatAt K H) wl ws) {k : Int} : Paired (WatAt K H) (adrop wl k) (adrop ws k) := by
  unfold adrop
  induction h with
  | nil => exact .nil
  | cons a t ih =>
    rw [List.filter_cons, List.filter_cons, a.1]
    split
    · exact .cons a ih
    · exact ih
/-- one watcher is written -/
theorem wl_set {H' : Hp} (h : Paired (WatAt K H) wl ws) {k : Int} {a : Addr} {y : WatS} (nd : (wl.map (·.2)).Nodup) (ndk : (ws.map (·.1)).Nodup) (e : aget wl k = some a) (hy : ∃ dx, H' a = some (.ins (He.ga K "Watcher") dx (fl_Watcher (.str y.pre) (.int y.had) (.int y.told)))) (hk : ∀ b o, b ≠ a → H b = some o → H' b = some o) :
    Paired (WatAt K H') wl (ws.map fun p => if p.1 = k then (p.1, y) else p) := by
  induction h with
  | nil => exact .nil
  | @cons p q wl ws h t ih =>
    rw [List.map_cons, List.nodup_cons] at nd ndk
    rw [aget_cons] at e
    rw [List.map_cons]
    obtain ⟨e1, dx, e2⟩ := h
    by_cases c : p.1 = k
    · rw [if_pos c] at e
      have ea : p.2 = a := Option.some.inj e
      have rest : ws.map (fun p => if p.1 = k then (p.1, y) else p) = ws := by
        refine (List.map_congr_left fun r hr => if_neg fun z => ?_).trans (List.map_id' ws)
        exact ndk.1 (by rw [← e1, c, ← z]; exact List.mem_map_of_mem (f := (·.1)) hr)
      rw [rest]
      refine .cons ⟨?_, ?_⟩ ?_
      · rw [if_pos (e1 ▸ c)]; exact e1
      · rw [if_pos (e1 ▸ c), ea]; exact hy
      · have na : ∀ r ∈ wl, r.2 ≠ a := fun r hr z => nd.1 (by rw [ea, ← z]; exact List.mem_map_of_mem (f := (·.2)) hr)
        clear ih e nd ndk rest
        induction t with
        | nil => exact .nil
        | cons g u ih2 =>
          obtain ⟨g1, dg, g2⟩ := g
          exact .cons ⟨g1, dg, hk _ _ (na _ List.mem_cons_self) g2⟩ (ih2 fun r hr => na r (List.mem_cons_of_mem _ hr))
    · rw [if_neg c] at e
      have na : p.2 ≠ a := fun z => nd.1 (by
        have := aget_some_mem e
        rw [z]
        exact List.mem_map_of_mem (f := (·.2)) this)
      refine .cons ?_ (ih nd.2 ndk.2 e)
      rw [if_neg (e1 ▸ c)]
      exact ⟨e1, dx, hk _ _ na e2⟩
end
/-- watchers are told once, their numbers are no further than how many were met -/
structure WOk (R : RoomS) : Prop where
  nd : (R.ws.map (·.1)).Nodup
  le : ∀ k ∈ R.ws.map (·.1), k ≤ R.met
def RoomS.watch (R : RoomS) (x : WatS) : RoomS := { R with met := R.met + 1, ws := R.ws ++ [(R.met + 1, x)] }
def RoomS.setW (R : RoomS) (k : Int) (y : WatS) : RoomS := { R with ws := R.ws.map fun p => if p.1 = k then (p.1, y) else p }
def pulled (R : RoomS) (x : WatS) (most : Int) : List Row := R.G.wanted x.pre x.told most
def toldBy (R : RoomS) (x : WatS) (most : Int) : Int := if ((pulled R x most).length : Int) < most then R.G.last else match (pulled R x most).getLast? with
  | none => x.told
  | some r => r.n
theorem mapsnd_append {wl : List (Int × Addr)} {k : Int} {a : Addr} : (wl ++ [(k, a)]).map (·.2) = wl.map (·.2) ++ [a] := by rw [List.map_append]; rfl
section
variable {P : Program} {w : World} {K : PySem.W.Frag} {mg : Str → Option Value} {base : Heap}
def sp_Watcher_init (K : PySem.W.Frag) : Sp := fun vs H Q _ => ∃ p dx pre had, vs = [.ref p, .str pre, .int had] ∧ H p = some (.ins (He.ga K "Watcher") dx []) ∧
  ∀ H', H' p = some (.ins (He.ga K "Watcher") dx (fl_Watcher (.str pre) (.int had) (.int had))) → Ext [p] H H' → Q .non H'
theorem sc_Watcher_init : FnScope ["self", "prefix", "had"] ["self", "prefix", "had"] (defScope s_Watcher_init) := ⟨rfl, rfl, rfl, by decide +kernel, rfl, by decide +kernel, by decide +kernel⟩
theorem ok_Watcher_init (T : FX K mg) : FnOk P w K mg base (L2N.CX P w) 1 (He.ma K (He.ga K "Watcher") "__init__") (fdAt K ("Watcher", some "__init__")) ["self", "prefix", "had"] (sp_Watcher_init K) := by
  refine FunD.ok T.F_Watcher_init sc_Watcher_init (fun vs H Q E h => ?_) (fun cdv A outer s H vs Q E hr h => ?_)
  · (repeat (obtain ⟨_, h⟩ := h)); subst_vars; rfl
  · have hu := hu_of hr
    have hu64 := hr.units
    refine ⟨_,
      (pss_cons
        (ps_fldC T.cl_Watcher T.na_Watcher_prefix (pv 0) (pv 1))
      (pss_cons
        (ps_fldC T.cl_Watcher T.na_Watcher_had (pv 0) (pv 2))
      (pss_one
        (ps_fldC T.cl_Watcher T.na_Watcher_told (pv 0) (pv 2))))), ?_⟩
    obtain ⟨p, dx, pre, had, rfl, hp, k⟩ := h
    have R0 : Run [p] H H := Run.start (by wtm_at "lv")
    repeat wtm_at "k"
    rename_i H3 r3 g3 n3
    exact k H3 g3 r3.ext
def sp_Room_watch (K : PySem.W.Frag) : Sp := fun vs H Q E => ∃ p F R pre start, ∃ px : Tx 1000 pre, vs = [.ref p, .str pre, .int start] ∧ RoomAt K H p F R ∧ WOk R ∧ R.ws.length ≤ 1000 ∧
  (R.G.gone + 1 ≤ start ∧ start ≤ R.G.last + 1 → ∀ H' F', RoomAt K H' p F' (R.watch ⟨pre, px, start - 1, start - 1⟩) → Grow H F F' → Ext F H H' → Q (.int (R.met + 1)) H') ∧
  (¬ (R.G.gone + 1 ≤ start ∧ start ≤ R.G.last + 1) → E (.ref (He.ga K "NoStart")) none H)
theorem sc_Room_watch : FnScope ["self", "prefix", "start"] ["self", "prefix", "start"] (defScope s_Room_watch) := ⟨rfl, rfl, rfl, by decide +kernel, rfl, by decide +kernel, by decide +kernel⟩
theorem ok_Room_watch (T : FX K mg) : FnOk P w K mg base (L2N.CX P w) 3 (He.ma K (He.ga K "Room") "watch") (fdAt K ("Room", some "watch")) ["self", "prefix", "start"] (sp_Room_watch K) := by
  refine FunD.ok T.F_Room_watch sc_Room_watch (fun vs H Q E h => ?_) (fun cdv A outer s H vs Q E hr h => ?_)
  · (repeat (obtain ⟨_, h⟩ := h)); subst_vars; rfl
  · have hu := hu_of hr
    have hu64 := hr.units
    refine ⟨_,
      (pss_cons
        (ps_if (PW.pt (pw_or (pt_cmpR oIlt (pv 2) (pe_meth0S (pe_fldC T.cl_Room T.na_Room_log (pv 0)) T.cl_Log T.me_Log_first (ok_Log_first T) (hr.mono (j := 1) (by decide)) T.b_Log_first (fun σ => L2N.passAt tkd σ)) (nomark _)) (pw_or1 (pt_cmpR oIgt (pv 2) (pe_op oIadd (pe_meth0S (pe_fldC T.cl_Room T.na_Room_log (pv 0)) T.cl_Log T.me_Log_last (ok_Log_last T) (hr.mono (j := 1) (by decide)) T.b_Log_last (fun σ => L2N.passAt tkd σ)) pe_int) (nomark _)))))
          (pss_one
            (L2N.ps_raise rfl tkd (L2N.pmk_own PySem.F.excBase_ValueError T.x_NoStart.1 T.g_NoStart T.x_NoStart.2.1 (raises_own T.x_NoStart.2.2.1 T.x_NoStart.2.2.2) rfl)))
          pss_nil)
      (pss_cons
        (ps_fldC T.cl_Room T.na_Room_met (pv 0) (pe_op oIadd (pe_fldC T.cl_Room T.na_Room_met (pv 0)) pe_int))
      (pss_cons
        (ps_dput hu (pe_fldC T.cl_Room T.na_Room_watchers (pv 0)) (pe_fldC T.cl_Room T.na_Room_met (pv 0)) (pe_makeS T.mk_Watcher (ok_Watcher_init T) (hr.mono (j := 2) (by decide)) rfl T.g_Watcher T.b_Watcher_init (fun σ => L2N.passAt tkd σ) (pa_cons (pv 1) (pa_cons (pe_op oIsub (pv 2) pe_int) pa_nil))) rfl)
      (pss_one
        (ps_ret (pe_fldC T.cl_Room T.na_Room_met (pv 0))))))), ?_⟩
    obtain ⟨p, F, R, pre, start, px, rfl, ⟨X, Fp, rfl, S⟩, wok, zw, kQ, kE⟩ := h
    obtain ⟨em, dx, hp⟩ := S.r .me
    have hg := S.r .lo
    obtain ⟨pr, dg, ys, eg, ng, g1, g2, g3⟩ := id hg
    repeat wtm_at "k"
    refine ⟨_, _, R.G, rfl, hg, ?_⟩
    repeat wtm_at "k"
    refine k_ifd (fun c => k_ift (kE (by omega))) fun c1 => ?_
    repeat wtm_at "k"
    refine ⟨_, _, R.G, rfl, hg, ?_⟩
    repeat wtm_at "k"
    refine k_ifd (fun c => kE (by omega)) fun c2 => ?_
    have kQ := kQ ⟨by omega, by omega⟩
    obtain ⟨wl, ew, hw, nw, pw⟩ := S.r .wa
    have npw : p ≠ X.pw := by wtm_at "ne"
    have R0 : Run [p, X.pw] H H := Run.start (by wtm_at "lv")
    repeat wtm_at "k"
    rename_i H1 r1 g1 n1 x dxw H2 f1 f2 f3 r2 g2 s2
    refine ⟨x, dxw, pre, start - 1, rfl, g2, fun H3 g3 e3 => ⟨rfl, ?_⟩⟩
    have lwF : Live H (X.pw :: wl.map (·.2)) := by rw [← ew]; exact S.sep.lv .wa
    have xw : x ∉ X.pw :: wl.map (·.2) := fun z => lwF x z f1
    have npx : p ≠ x := fun z => f2 (by rw [← z]; simp)
    have nwx : X.pw ≠ x := fun z => f2 (by rw [← z]; simp)
    have r3 : Run [p, X.pw] H H3 := r2.call e3 (fun c h => .inr (by rw [List.mem_singleton.mp h]; exact f1)) fun c h1 h2 => by
      rw [List.mem_singleton.mp h2] at h1
      exact absurd h1 f2
    have g1' : H3 p = some (.ins (He.ga K "Room") dx (fl_Room (.int R.now) (.ref X.pl) (.ref X.pg) (.ref X.pk) (.ref X.pw) (.int (R.met + 1)))) := by wtm_at "hf"
    have hw3 : H3 X.pw = some (.dK (ik aw wl)) := by wtm_at "hf"
    have lw := Paired.length pw
    clear g1 n1 r1 r2 s2
    repeat wtm_at "k"
    rename_i H4 r4 g4 n4
    have new : aget R.ws (R.met + 1) = none := aget_none.mpr fun z => by have := wok.le _ z; omega
    rw [aput_new ((wl_none pw).mpr new)] at g4
    have x04 : Ext [p, X.pw] H H4 := r4.ext
    have lwF : Live H (X.pw :: wl.map (·.2)) := by rw [← ew]; exact S.sep.lv .wa
    have apw : Apart (X.pw :: wl.map (·.2)) [p] := by rw [← ew, ← em]; exact S.sep.ap .wa .me (by simp)
    have pw4 : Paired (WatAt K H4) (wl ++ [(R.met + 1, x)]) (R.ws ++ [(R.met + 1, ⟨pre, px, start - 1, start - 1⟩)]) := by
      refine Paired.snoc (watAt_ext pw x04 fun c hc hd => ?_) ⟨rfl, dxw, ?_⟩
      · simp only [List.mem_cons, List.not_mem_nil, or_false] at hd
        rcases hd with rfl | rfl
        · exact apw _ (List.mem_cons_of_mem _ hc) (by simp)
        · rw [ew, List.nodup_cons] at nw; exact nw.1 hc
      · rw [n4 _ nwx.symm]; exact g3
    have e' : Ext (Fp .me ++ Fp .wa) H H4 := x04.sub fun c hc => by
      simp only [List.mem_cons, List.not_mem_nil, or_false] at hc
      rcases hc with rfl | rfl
      · rw [em]; simp
      · rw [ew]; simp
    have F4 : RIn K p X (R.watch ⟨pre, px, start - 1, start - 1⟩) H4 (at_ Fp .wa (X.pw :: (wl ++ [(R.met + 1, x)]).map (·.2))) := by
      have gr : Grow H (Fp .wa) (X.pw :: (wl ++ [(R.met + 1, x)]).map (·.2)) := by
        intro c hc
        rw [mapsnd_append, ← List.cons_append] at hc
        rcases List.mem_append.mp hc with z | z
        · exact .inl (by rw [ew]; exact z)
        · exact .inr (by rw [List.mem_singleton.mp z]; exact f1)
      have keep : ∀ i, i ≠ RP.me → i ≠ RP.wa → (prt K p X R i).At H4 (Fp i) := fun i h1 h2 => (prt K p X R i).ext (S.r i) e' fun c hc hd => (List.mem_append.mp hd).elim (S.sep.ap i .me h1 c hc) (S.sep.ap i .wa h2 c hc)
      have hme : (prt K p X (R.watch ⟨pre, px, start - 1, start - 1⟩) .me).At H4 (Fp .me) := by
        have npw2 : p ≠ X.pw := npw
        exact ⟨em, dx, by rw [n4 _ npw2]; exact g1'⟩
      have hwa : (prt K p X (R.watch ⟨pre, px, start - 1, start - 1⟩) .wa).At H4 (X.pw :: (wl ++ [(R.met + 1, x)]).map (·.2)) := by
        refine ⟨_, rfl, g4, ?_, pw4⟩
        rw [mapsnd_append, ← List.cons_append]
        rw [ew] at nw
        refine List.nodup_append.mpr ⟨nw, by simp, fun a ha b hb => ?_⟩
        rw [List.mem_singleton.mp hb]
        exact fun z => xw (z ▸ ha)
      have rr : ∀ i, (prt K p X (R.watch ⟨pre, px, start - 1, start - 1⟩) i).At H4 (at_ Fp .wa (X.pw :: (wl ++ [(R.met + 1, x)]).map (·.2)) i) := by
        intro i
        by_cases c : i = .wa
        · subst c; rw [at_same]; exact hwa
        · rw [at_ne c]
          cases i
          · exact hme
          · exact keep .le (by simp) (by simp)
          · exact keep .lo (by simp) (by simp)
          · exact keep .ke (by simp) (by simp)
          · exact absurd rfl c
      refine ⟨⟨fun i j h => ?_, fun i => Thing.live _ (rr i), ext_noHp, fun _ _ _ => rfl⟩, rr⟩
      by_cases ci : i = .wa
      · subst ci
        rw [at_same, at_ne (Ne.symm h)]
        exact (S.sep.ap .wa j h).grow gr (S.sep.lv j)
      · rw [at_ne ci]
        by_cases cj : j = .wa
        · subst cj
          rw [at_same]
          exact ((S.sep.ap .wa i (Ne.symm ci)).grow gr (S.sep.lv i)).symm
        · rw [at_ne cj]; exact S.sep.ap i j h
    have gr : Grow H (Fp .wa) (X.pw :: (wl ++ [(R.met + 1, x)]).map (·.2)) := by
      intro c hc
      rw [mapsnd_append, ← List.cons_append] at hc
      rcases List.mem_append.mp hc with z | z
      · exact .inl (by rw [ew]; exact z)
      · exact .inr (by rw [List.mem_singleton.mp z]; exact f1)
    exact kQ H4 _ ⟨X, _, rfl, F4⟩ (flat_grow gr) (e'.sub fun c hc => (List.mem_append.mp hc).elim (fun z => mem_flat z) fun z => mem_flat z)
def sp_Room_need (K : PySem.W.Frag) : Sp := fun vs H Q E => ∃ p X Fp R k wl, vs = [.ref p, .int k] ∧ RIn K p X R H Fp ∧ H X.pw = some (.dK (ik aw wl)) ∧ (∀ a, aget wl k = some a → Q (.ref a) H) ∧ (aget wl k = none → E (.ref (He.ga K "NoWatch")) none H)
theorem sc_Room_need : FnScope ["self", "watcher"] ["self", "watcher"] (defScope s_Room_need) := ⟨rfl, rfl, rfl, by decide +kernel, rfl, by decide +kernel, by decide +kernel⟩
theorem ok_Room_need (T : FX K mg) : FnOk P w K mg base (L2N.CX P w) 1 (He.ma K (He.ga K "Room") "need") (fdAt K ("Room", some "need")) ["self", "watcher"] (sp_Room_need K) := by
  refine FunD.ok T.F_Room_need sc_Room_need (fun vs H Q E h => ?_) (fun cdv A outer s H vs Q E hr h => ?_)
  · (repeat (obtain ⟨_, h⟩ := h)); subst_vars; rfl
  · have hu := hu_of hr
    have hu64 := hr.units
    refine ⟨_,
      (pss_cons
        (ps_if (pt_cmp (pc_dnotin hu (pv 1) (pe_fldC T.cl_Room T.na_Room_watchers (pv 0))))
          (pss_one
            (L2N.ps_raise rfl tkd (L2N.pmk_own PySem.F.excBase_ValueError T.x_NoWatch.1 T.g_NoWatch T.x_NoWatch.2.1 (raises_own T.x_NoWatch.2.2.1 T.x_NoWatch.2.2.2) rfl)))
          pss_nil)
      (pss_one
        (ps_ret (pe_dget hu (pe_fldC T.cl_Room T.na_Room_watchers (pv 0)) (pv 1) (fun _ _ => rfl))))), ?_⟩
    obtain ⟨p, X, Fp, R, key, wl, rfl, S, hw, kQ, kE⟩ := h
    obtain ⟨em, dx, hp⟩ := S.r .me
    repeat wtm_at "k"
    rw [valV_ik]
    cases e : aget wl key with
    | none => exact k_ift (kE e)
    | some a =>
      refine k_iff ?_
      repeat wtm_at "k"
      exact kQ a e
theorem RIn.setW {K : PySem.W.Frag} {p : Addr} {X : RAd} {R : RoomS} {H H' : Hp} {Fp : RP → List Addr} {wl : List (Int × Addr)} {k : Int} {a : Addr} {y : WatS} (S : RIn K p X R H Fp) (ew : Fp .wa = X.pw :: wl.map (·.2)) (hw : H X.pw = some (.dK (ik aw wl))) (nw : (Fp .wa).Nodup) (pw : Paired (WatAt K H) wl R.ws) (wok : WOk R)
    (ea : aget wl k = some a) (e : Ext [a] H H') (hy : ∃ dx, H' a = some (.ins (He.ga K "Watcher") dx (fl_Watcher (.str y.pre) (.int y.had) (.int y.told)))) : RIn K p X (R.setW k y) H' Fp ∧ Ext (flat Fp) H H' := by
  have ma : a ∈ wl.map (·.2) := List.mem_map_of_mem (f := (·.2)) (aget_some_mem ea)
  rw [ew, List.nodup_cons] at nw
  have npa : X.pw ≠ a := fun z => nw.1 (z ▸ ma)
  have e' : Ext (Fp .wa) H H' := e.sub fun c hc => by rw [List.mem_singleton.mp hc, ew]; exact List.mem_cons_of_mem _ ma
  refine ⟨RIn.keep .wa S e' ⟨wl, ew, e.keep _ _ hw (by simpa using npa), by rw [ew, List.nodup_cons]; exact nw, ?_⟩ prt_wa, ext_flat e'⟩
  exact wl_set pw nw.2 wok.nd ea hy fun b o hb ho => e.keep _ _ ho (by simpa using hb)
def sp_Room_pull (K : PySem.W.Frag) : Sp := fun vs H Q E => ∃ p F R k most, vs = [.ref p, .int k, .int most] ∧ RoomAt K H p F R ∧ WOk R ∧ R.G.rows.length ≤ 900000 ∧
  (∀ x, aget R.ws k = some x → ∀ l H' ys, H l = none → RoomAt K H' p F (R.setW k { x with told := toldBy R x most }) → Ext F H H' → H' l = some (.lst ys) → Paired (IsR H') ys (pulled R x most) → Q (.ref l) H') ∧
  (aget R.ws k = none → E (.ref (He.ga K "NoWatch")) none H)
theorem sc_Room_pull : FnScope ["self", "watcher", "most", "one", "found"] ["self", "watcher", "most"] (defScope s_Room_pull) := ⟨rfl, rfl, rfl, by decide +kernel, rfl, by decide +kernel, by decide +kernel⟩
theorem ok_Room_pull (T : FX K mg) : FnOk P w K mg base (L2N.CX P w) 2 (He.ma K (He.ga K "Room") "pull") (fdAt K ("Room", some "pull")) ["self", "watcher", "most"] (sp_Room_pull K) := by
  refine FunD.ok T.F_Room_pull sc_Room_pull (fun vs H Q E h => ?_) (fun cdv A outer s H vs Q E hr h => ?_)
  · (repeat (obtain ⟨_, h⟩ := h)); subst_vars; rfl
  · have hu := hu_of hr
    have hu64 := hr.units
    refine ⟨_,
      (pss_cons
        (ps_set (i := 3) sc_Room_pull.nd rfl (Or.inl rfl) (pe_methS (pv 0) T.cl_Room T.me_Room_need (ok_Room_need T) (hr.mono (j := 1) (by decide)) T.b_Room_need (fun σ => L2N.passAt tkd σ) (pa_cons (pv 1) pa_nil)))
      (pss_cons
        (ps_set (i := 4) sc_Room_pull.nd rfl (Or.inl rfl) (pe_methS (pe_fldC T.cl_Room T.na_Room_log (pv 0)) T.cl_Log T.me_Log_wanted (ok_Log_wanted T) (hr.mono (j := 1) (by decide)) T.b_Log_wanted (fun σ => L2N.passAt tkd σ) (pa_cons (pe_fldC T.cl_Watcher T.na_Watcher_prefix (pv 3)) (pa_cons (pe_fldC T.cl_Watcher T.na_Watcher_told (pv 3)) (pa_cons (pv 2) pa_nil)))))
      (pss_cons
        (ps_if (pt_cmpR oIlt (pe_callB oLen (by rfl) T.f_len PySem.boot_len (pa_cons (pv 4) pa_nil)) (pv 2) (nomark _))
          (pss_one
            (ps_fldC T.cl_Watcher T.na_Watcher_told (pv 3) (pe_meth0S (pe_fldC T.cl_Room T.na_Room_log (pv 0)) T.cl_Log T.me_Log_last (ok_Log_last T) (hr.mono (j := 1) (by decide)) T.b_Log_last (fun σ => L2N.passAt tkd σ))))
          (pss_one
            (ps_if (pt_cmpR (op_neD hu64) (pv 4) (pe_lst pa_nil) (nomark _))
              (pss_one
                (ps_fldC T.cl_Watcher T.na_Watcher_told (pv 3) (pe_ix ix_tup (pe_ix ix_list (pv 4) (pe_un un_neg pe_int) (fun _ _ => rfl)) pe_int (fun _ _ => rfl))))
              pss_nil)))
      (pss_one
        (ps_ret (pv 4)))))), ?_⟩
    obtain ⟨p, F, R, key, most, rfl, ⟨X, Fp, rfl, S⟩, wok, zg, kQ, kE⟩ := h
    obtain ⟨em, dx, hp⟩ := S.r .me
    obtain ⟨wl, ew, hw, nw, pw⟩ := id (S.r .wa)
    have hg := S.r .lo
    obtain ⟨pr, dg, gys, eg, ng, g1, g2, g3⟩ := id hg
    repeat wtm_at "k"
    refine ⟨p, X, Fp, R, key, wl, rfl, S, hw, fun a ea => ?_, fun e => kE ((wl_none pw).mp e)⟩
    cases ex : aget R.ws key with
    | none => rw [(wl_none pw).mpr ex] at ea; cases ea
    | some x =>
      have kQ := kQ x ex
      obtain ⟨a', ea', dxa, ha⟩ := wl_some pw ex
      obtain rfl : a = a' := Option.some.inj (ea.symm.trans ea')
      have ma : a ∈ wl.map (·.2) := List.mem_map_of_mem (f := (·.2)) (aget_some_mem ea)
      have mw : a ∈ Fp .wa := by rw [ew]; exact List.mem_cons_of_mem _ ma
      repeat wtm_at "k"
      refine ⟨X.pg, _, R.G, x.pre, x.told, most, rfl, hg, zg, fun l H1 ys nl e1 hl py => ?_⟩
      have ha1 := e1.keep _ _ ha (by simp)
      have hp1 := e1.keep _ _ hp (by simp)
      have nla : l ≠ a := (ne_of_none ha nl).symm
      have npa : p ≠ a := fun z => S.sep.ap .me .wa (by simp) p (by rw [em]; simp) (z ▸ mw)
      have R1 : Run [a] H1 H1 := Run.start (by wtm_at "lv")
      have hg1 : LogAt K H1 X.pg (Fp .lo) R.G := hg.ext e1 (zero _)
      obtain ⟨pr1, dg1, gys1, eg1, ng1, q1, q2, q3⟩ := id hg1
      have fin : ∀ {H2 : Hp} {t : Int}, Ext [a] H1 H2 → H2 a = some (.ins (He.ga K "Watcher") dxa (fl_Watcher (.str x.pre) (.int x.had) (.int t))) → t = toldBy R x most → Q (.ref l) H2 := by
        intro H2 t e2 ha2 et
        subst et
        have e02 : Ext [a] H H2 := (e1.sub (by simp)).trans e2
        obtain ⟨S2, x2⟩ := RIn.setW (y := { x with told := toldBy R x most }) S ew hw nw pw wok ea e02 ⟨dxa, ha2⟩
        exact kQ l H2 ys nl ⟨X, Fp, rfl, S2⟩ x2 (e2.keep _ _ hl (by simpa using nla)) (keepT e2.tups py)
      have ly := Paired.length py
      have py : Paired (IsR H1) ys (pulled R x most) := py
      have ly : ys.length = (pulled R x most).length := ly
      repeat wtm_at "k"
      refine k_ifd (fun c1 => ?_) fun c1 => ?_
      · repeat wtm_at "k"
        refine ⟨X.pg, _, R.G, rfl, hg1, ?_⟩
        repeat wtm_at "k"
        rename_i H2 r2 b2 n2
        refine fin r2.ext b2 ?_
        unfold toldBy
        rw [if_pos (by rw [← ly]; exact c1)]
      · have et0 : toldBy R x most = match (pulled R x most).getLast? with | none => x.told | some r => r.n := by unfold toldBy; rw [if_neg (by rw [← ly]; exact c1)]
        repeat wtm_at "k"
        rename_i pn H2 u1 u2 u3 r2 g2 s2
        refine l_neT0 fR_plain (ds := pulled R x most) (by wtm_at "sq") (by wtm_at "sq") (keepT (fun a xs h => by wtm_at "hf") py) ?_
        refine k_bl (k_if (fun c2 => ?_) fun c2 => ?_)
        · have ne : ys.length - 1 < ys.length := by
            have : (pulled R x most).length ≠ 0 := fun z => by rw [List.length_eq_zero_iff] at z; rw [z] at c2; cases c2
            omega
          obtain ⟨r, er, q, eq, hq⟩ := getT py (List.getElem?_eq_getElem ne)
          have el : atI ys (-1) = some (.ref q) := by rw [← eq]; exact atI_last (List.getElem?_eq_getElem ne)
          have et : toldBy R x most = r.n := by rw [et0, List.getLast?_eq_getElem?, ← ly, er]
          repeat wtm_at "k"
          rename_i H3 r3 b3 n3
          exact fin r3.ext b3 et.symm
        · have e0 : pulled R x most = [] := by
            cases e : pulled R x most with
            | nil => rfl
            | cons x y => rw [e] at c2; cases c2
          have et : toldBy R x most = x.told := by rw [et0, e0]; rfl
          repeat wtm_at "k"
          exact fin r2.ext (by wtm_at "hf") et.symm
def sp_Room_confirm (K : PySem.W.Frag) : Sp := fun vs H Q E => ∃ p F R k, vs = [.ref p, .int k] ∧ RoomAt K H p F R ∧ WOk R ∧
  (∀ x, aget R.ws k = some x → ∀ H', RoomAt K H' p F (R.setW k { x with had := x.told }) → Ext F H H' → Q .non H') ∧ (aget R.ws k = none → E (.ref (He.ga K "NoWatch")) none H)
theorem sc_Room_confirm : FnScope ["self", "watcher", "one"] ["self", "watcher"] (defScope s_Room_confirm) := ⟨rfl, rfl, rfl, by decide +kernel, rfl, by decide +kernel, by decide +kernel⟩
theorem ok_Room_confirm (T : FX K mg) : FnOk P w K mg base (L2N.CX P w) 2 (He.ma K (He.ga K "Room") "confirm") (fdAt K ("Room", some "confirm")) ["self", "watcher"] (sp_Room_confirm K) := by
  refine FunD.ok T.F_Room_confirm sc_Room_confirm (fun vs H Q E h => ?_) (fun cdv A outer s H vs Q E hr h => ?_)
  · (repeat (obtain ⟨_, h⟩ := h)); subst_vars; rfl
  · have hu := hu_of hr
    have hu64 := hr.units
    refine ⟨_,
      (pss_cons
        (ps_set (i := 2) sc_Room_confirm.nd rfl (Or.inl rfl) (pe_methS (pv 0) T.cl_Room T.me_Room_need (ok_Room_need T) (hr.mono (j := 1) (by decide)) T.b_Room_need (fun σ => L2N.passAt tkd σ) (pa_cons (pv 1) pa_nil)))
      (pss_one
        (ps_fldC T.cl_Watcher T.na_Watcher_had (pv 2) (pe_fldC T.cl_Watcher T.na_Watcher_told (pv 2))))), ?_⟩
    obtain ⟨p, F, R, key, rfl, ⟨X, Fp, rfl, S⟩, wok, kQ, kE⟩ := h
    obtain ⟨em, dx, hp⟩ := S.r .me
    obtain ⟨wl, ew, hw, nw, pw⟩ := id (S.r .wa)
    repeat wtm_at "k"
    refine ⟨p, X, Fp, R, key, wl, rfl, S, hw, fun a ea => ?_, fun e => kE ((wl_none pw).mp e)⟩
    cases ex : aget R.ws key with
    | none => rw [(wl_none pw).mpr ex] at ea; cases ea
    | some x =>
      obtain ⟨a', ea', dxa, ha⟩ := wl_some pw ex
      obtain rfl : a = a' := Option.some.inj (ea.symm.trans ea')
      have R1 : Run [a] H H := Run.start (by wtm_at "lv")
      repeat wtm_at "k"
      rename_i H2 r2 b2 n2
      obtain ⟨S2, x2⟩ := RIn.setW (y := { x with had := x.told }) S ew hw nw pw wok ea r2.ext ⟨dxa, b2⟩
      exact kQ x ex H2 ⟨X, Fp, rfl, S2⟩ x2
def sp_Room_broken (K : PySem.W.Frag) : Sp := fun vs H Q E => ∃ p F R k, vs = [.ref p, .int k] ∧ RoomAt K H p F R ∧ WOk R ∧
  (∀ x, aget R.ws k = some x → ∀ H', RoomAt K H' p F (R.setW k { x with told := x.had }) → Ext F H H' → Q .non H') ∧ (aget R.ws k = none → E (.ref (He.ga K "NoWatch")) none H)
theorem sc_Room_broken : FnScope ["self", "watcher", "one"] ["self", "watcher"] (defScope s_Room_broken) := ⟨rfl, rfl, rfl, by decide +kernel, rfl, by decide +kernel, by decide +kernel⟩
theorem ok_Room_broken (T : FX K mg) : FnOk P w K mg base (L2N.CX P w) 2 (He.ma K (He.ga K "Room") "broken") (fdAt K ("Room", some "broken")) ["self", "watcher"] (sp_Room_broken K) := by
  refine FunD.ok T.F_Room_broken sc_Room_broken (fun vs H Q E h => ?_) (fun cdv A outer s H vs Q E hr h => ?_)
  · (repeat (obtain ⟨_, h⟩ := h)); subst_vars; rfl
  · have hu := hu_of hr
    have hu64 := hr.units
    refine ⟨_,
      (pss_cons
        (ps_set (i := 2) sc_Room_broken.nd rfl (Or.inl rfl) (pe_methS (pv 0) T.cl_Room T.me_Room_need (ok_Room_need T) (hr.mono (j := 1) (by decide)) T.b_Room_need (fun σ => L2N.passAt tkd σ) (pa_cons (pv 1) pa_nil)))
      (pss_one
        (ps_fldC T.cl_Watcher T.na_Watcher_told (pv 2) (pe_fldC T.cl_Watcher T.na_Watcher_had (pv 2))))), ?_⟩
    obtain ⟨p, F, R, key, rfl, ⟨X, Fp, rfl, S⟩, wok, kQ, kE⟩ := h
    obtain ⟨em, dx, hp⟩ := S.r .me
    obtain ⟨wl, ew, hw, nw, pw⟩ := id (S.r .wa)
    repeat wtm_at "k"
    refine ⟨p, X, Fp, R, key, wl, rfl, S, hw, fun a ea => ?_, fun e => kE ((wl_none pw).mp e)⟩
    cases ex : aget R.ws key with
    | none => rw [(wl_none pw).mpr ex] at ea; cases ea
    | some x =>
      obtain ⟨a', ea', dxa, ha⟩ := wl_some pw ex
      obtain rfl : a = a' := Option.some.inj (ea.symm.trans ea')
      have R1 : Run [a] H H := Run.start (by wtm_at "lv")
      repeat wtm_at "k"
      rename_i H2 r2 b2 n2
      obtain ⟨S2, x2⟩ := RIn.setW (y := { x with told := x.had }) S ew hw nw pw wok ea r2.ext ⟨dxa, b2⟩
      exact kQ x ex H2 ⟨X, Fp, rfl, S2⟩ x2
end
end LW

set_option maxHeartbeats 4000000
namespace LW
open PySem PySem.Spec PyProof.Rows L2
local macro_rules | `(tactic| wtm_at "vk") => `(tactic| first
  | assumption
  | with_reducible exact rv_mf_given
  | with_reducible exact rv_mf_free
  | exact valV_sv (by assumption)
  | exact valV_iv (by assumption)
  | fail)
local macro_rules | `(tactic| wtm_at "pk") => `(tactic| first
  | with_reducible exact putK_iv
  | with_reducible exact dropK_ik
  | with_reducible exact dropK_sk
  | with_reducible exact rp_mf_given
  | with_reducible exact rp_mf_free
  | exact putK_sv
  | assumption
  | fail)
local macro_rules | `(tactic| wtm_at "rm") => `(tactic| first
  | with_reducible exact rm_mf
  | exact rfl
  | fail)
local macro_rules | `(tactic| wtm_at "rl") => `(tactic| first
  | with_reducible exact rl_mf
  | with_reducible assumption
  | fail)
local macro_rules | `(tactic| wtm_at "lk") => `(tactic| with_reducible first
  | exact lk_Ear_behind
  | exact lk_Ear_begun
  | exact lk_Ear_rows
  | exact lk_Line_room
  | exact lk_Line_watcher
  | exact lk_Line_ear
  | exact lk_Leases_given
  | exact lk_Leases_spans
  | exact lk_Leases_ends
  | exact lk_Log_rows
  | exact lk_Log_gone
  | exact lk_Watcher_prefix
  | exact lk_Watcher_had
  | exact lk_Watcher_told
  | exact lk_Room_now
  | exact lk_Room_leases
  | exact lk_Room_log
  | exact lk_Room_kept
  | exact lk_Room_watchers
  | exact lk_Room_met
  | fail)
local macro_rules | `(tactic| wtm_at "lm") => `(tactic| with_reducible first
  | exact lm_Ear_hear
  | exact lm_Ear_heard
  | exact lm_Ear_state
  | exact lm_Line_turn
  | exact lm_Leases_grant
  | exact lm_Leases_need
  | exact lm_Leases_renew
  | exact lm_Leases_drop
  | exact lm_Leases_due
  | exact lm_Log_note
  | exact lm_Log_last
  | exact lm_Log_first
  | exact lm_Log_wanted
  | exact lm_Log_forget
  | exact lm_Room_grant
  | exact lm_Room_renew
  | exact lm_Room_drop
  | exact lm_Room_wait
  | exact lm_Room_free
  | exact lm_Room_put
  | exact lm_Room_cut
  | exact lm_Room_value
  | exact lm_Room_holder
  | exact lm_Room_pairs
  | exact lm_Room_last
  | exact lm_Room_first
  | exact lm_Room_watch
  | exact lm_Room_need
  | exact lm_Room_pull
  | exact lm_Room_confirm
  | exact lm_Room_broken
  | exact lm_Room_leave
  | exact lm_Room_trim
  | fail)
local macro_rules | `(tactic| wtm_at "pt") => `(tactic| with_reducible first
  | exact pt_Ear_behind
  | exact pt_Ear_begun
  | exact pt_Ear_rows
  | exact pi_Ear_0
  | exact pi_Ear_1
  | exact pi_Ear_2
  | exact pt_Line_room
  | exact pt_Line_watcher
  | exact pt_Line_ear
  | exact pi_Line_0
  | exact pi_Line_1
  | exact pi_Line_2
  | exact pt_Leases_given
  | exact pt_Leases_spans
  | exact pt_Leases_ends
  | exact pi_Leases_0
  | exact pi_Leases_1
  | exact pi_Leases_2
  | exact pt_Log_rows
  | exact pt_Log_gone
  | exact pi_Log_0
  | exact pi_Log_1
  | exact pt_Watcher_prefix
  | exact pt_Watcher_had
  | exact pt_Watcher_told
  | exact pi_Watcher_0
  | exact pi_Watcher_1
  | exact pi_Watcher_2
  | exact pt_Room_now
  | exact pt_Room_leases
  | exact pt_Room_log
  | exact pt_Room_kept
  | exact pt_Room_watchers
  | exact pt_Room_met
  | exact pi_Room_0
  | exact pi_Room_1
  | exact pi_Room_2
  | exact pi_Room_3
  | exact pi_Room_4
  | exact pi_Room_5
  | fail)
local macro_rules | `(tactic| wtm_at "lz") => `(tactic| with_reducible first
  | exact lz_Ear
  | exact lz_Line
  | exact lz_Leases
  | exact lz_Log
  | exact lz_Watcher
  | exact lz_Room
  | (simp only [List.length_cons, List.length_nil]; decide)
  | exact (by decide)
  | fail)
local macro_rules | `(tactic| wtm_at "hf") => `(tactic| first
  | assumption
  | (refine' hf_s ?hs ?hx; (case hs => assumption); (case hx => wtm_at "hf"))
  | (refine' hf_n ?hs ?hx ?ne; (case hs => assumption); (case hx => wtm_at "hf"); (case ne => wtm_at "ne"))
  | (refine' hf_e ?hs ?hx ?hy; (case hs => assumption); (case hx => wtm_at "hf"); (case hy => wtm_at "nin"))
  | fail)
local macro_rules | `(tactic| wtm_at "ne") => `(tactic| first
  | assumption
  | (apply Ne.symm; assumption)
  | (refine' ne_of_none ?hx ?hy; (case hy => assumption); (case hx => wtm_at "hf"))
  | (refine' (ne_of_none ?hx ?hy).symm; (case hy => assumption); (case hx => wtm_at "hf"))
  | (refine' ne_of ?hx ?hy ?hz; (case hx => assumption); (case hy => assumption); (case hz => intro z; cases z))
  | fail)
local macro_rules | `(tactic| wtm_at "nin") => `(tactic| first
  | assumption
  | exact notin_nil
  | (refine' notin_cons ?hx ?hy; (case hx => wtm_at "ne"); (case hy => wtm_at "nin"))
  | fail)
local macro_rules | `(tactic| wtm_at "mem") => `(tactic| first
  | assumption
  | exact List.mem_cons_self
  | (refine' List.mem_cons_of_mem _ ?hx; (case hx => wtm_at "mem"))
  | fail)
local macro_rules | `(tactic| wtm_at "wr") => `(tactic| first
  | exact Or.inr (by assumption)
  | exact Or.inl (by wtm_at "mem")
  | fail)
local macro_rules | `(tactic| wtm_at "lv") => `(tactic| first
  | assumption
  | exact Live.nil
  | (refine' Live.cons ?hx ?hy; (case hx => wtm_at "hf"); (case hy => wtm_at "lv"))
  | fail)
local macro_rules | `(tactic| wtm_at "run") => `(tactic| first
  | assumption
  | (refine' Run.same ?hx ?hy; (case hy => assumption); (case hx => wtm_at "run"))
  | fail)
local macro_rules | `(tactic| wtm_at "sq") => `(tactic| first
  | assumption
  | (refine' Run.seq ?hx ?hy; (case hx => assumption); (case hy => assumption))
  | (refine' SqL.of ?hx; (case hx => wtm_at "hf"))
  | (refine' Same.seq ?hx ?hy; (case hx => assumption); (case hy => wtm_at "sq"))
  | (refine' Ext.seqL ?hx ?hz ?hy; (case hx => assumption); (case hy => wtm_at "sq"); (case hz => wtm_at "nin"))
  | fail)
local macro_rules | `(tactic| wtm_at "st") => `(tactic| first
  | assumption
  | (refine' SqT.of ?hx; (case hx => wtm_at "hf"))
  | fail)
local macro_rules | `(tactic| wtm_at "ix") => `(tactic| first
  | assumption
  | exact rfl
  | fail)
local macro_rules | `(tactic| wtm_at "sz") => `(tactic| first
  | wtm_at "rl"
  | with_reducible assumption
  | (rw [ik_len]; wtm_at "sz")
  | (rw [sk_len]; wtm_at "sz")
  | exact smallM (by assumption)
  | exact smallM (by omega)
  | exact smallM (by simp only [List.length_cons, List.length_nil, List.length_append, List.length_map]; omega)
  | fail)
local macro_rules | `(tactic| wtm_at "tx") => `(tactic| first
  | assumption
  | ((with_reducible refine' Tx.app ?hx ?hy); (case hx => wtm_at "tx"); (case hy => wtm_at "tx"))
  | ((with_reducible refine' Tx.cut ?hx); (case hx => wtm_at "tx"))
  | with_reducible exact Tx.nil
  | fail)
local macro_rules | `(tactic| wtm_at "k") => `(tactic| first
  | with_reducible refine k_seq ?_
  | with_reducible refine k_next ?_
  | with_reducible refine k_asg ?_
  | with_reducible refine k_ret ?_
  | with_reducible refine k_retN ?_
  | with_reducible refine k_asgS ?_
  | ((with_reducible refine' l_setL ?hr ?hx ?he ?h2 ?hw ?_); (case hr => wtm_at "run"); (case hx => wtm_at "hf"); (case he => exact rfl); (case h2 => exact rfl); (case hw => wtm_at "wr"); intro _ _ _ _)
  | with_reducible refine k_minD ?_
  | with_reducible refine k_drop ?_
  | with_reducible refine k_ifS ?_
  | ((with_reducible refine' k_var ?hx ?_); (case hx => exact rfl))
  | with_reducible refine k_c ?_
  | with_reducible refine k_negc ?_
  | with_reducible refine k_neg ?_
  | with_reducible refine l_neg ?_
  | with_reducible refine k_op ?_
  | with_reducible refine k_cb ?_
  | with_reducible refine k_nil ?_
  | with_reducible refine k_cons ?_
  | with_reducible refine k_test ?_
  | with_reducible refine k_B ?_
  | with_reducible refine k_not ?_
  | with_reducible refine k_and ?_
  | with_reducible refine k_or ?_
  | with_reducible refine k_notV ?_
  | with_reducible refine k_andV ?_
  | with_reducible refine k_orV ?_
  | with_reducible refine k_bl ?_
  | with_reducible refine k_add ?_
  | with_reducible refine k_sub ?_
  | ((with_reducible refine' k_mod ?hx ?_); (case hx => first | decide | omega))
  | ((with_reducible refine' k_div ?hx ?_); (case hx => first | exact ⟨by decide, by decide⟩ | exact ⟨by omega, by omega⟩))
  | ((with_reducible refine' k_mul ?hx ?_); (case hx => first | exact Or.inl ⟨by decide, by decide⟩ | exact Or.inr ⟨by decide, by decide⟩ | exact Or.inl ⟨by omega, by omega⟩))
  | with_reducible refine k_chain ?_
  | with_reducible refine k_p6 ?_
  | with_reducible refine k_p9 ?_
  | with_reducible refine k_p12 ?_
  | with_reducible refine k_p13 ?_
  | with_reducible refine k_p18 ?_
  | with_reducible refine k_p30 ?_
  | with_reducible refine k_lt ?_
  | with_reducible refine k_le ?_
  | with_reducible refine k_gt ?_
  | with_reducible refine k_ge ?_
  | with_reducible refine k_eq ?_
  | with_reducible refine k_ne ?_
  | with_reducible refine k_seqS ?_
  | with_reducible refine k_neS ?_
  | with_reducible refine k_neB ?_
  | with_reducible refine k_isN ?_
  | with_reducible refine k_noN ?_
  | with_reducible refine k_fld ?_
  | ((with_reducible refine' l_fld ?hx ?hy ?_); (case hx => wtm_at "hf"); (case hy => wtm_at "lk"))
  | with_reducible refine k_fldS ?_
  | ((with_reducible refine' l_fldS ?hr ?hx ?hz ?hy ?hw ?_); (case hr => wtm_at "run"); (case hx => wtm_at "hf"); (case hy => wtm_at "pt"); (case hz => wtm_at "lz"); (case hw => wtm_at "wr"); intro _ _ _ _)
  | ((with_reducible refine' l_new ?hr ?_); (case hr => wtm_at "run"); intro _ _ _ _ _ _ _ _)
  | with_reducible refine k_append ?_
  | ((with_reducible refine' l_tyL ?hx ?_); (case hx => wtm_at "hf"))
  | ((with_reducible refine' l_ins ?hx ?hy ?_); (case hx => wtm_at "hf"); (case hy => wtm_at "lm"))
  | with_reducible refine k_methS ?_
  | with_reducible refine k_methG ?_
  | with_reducible refine k_makeG ?_
  | with_reducible refine k_meth0 ?_
  | with_reducible refine k_callS ?_
  | with_reducible refine k_callE ?_
  | with_reducible refine k_dget ?_
  | with_reducible refine k_din ?_
  | with_reducible refine k_dnotin ?_
  | with_reducible refine k_dput ?_
  | with_reducible refine k_dpop ?_
  | with_reducible refine k_dget2 ?_
  | with_reducible refine k_tup ?_
  | with_reducible refine k_lst ?_
  | with_reducible refine k_dnew ?_
  | ((with_reducible refine' l_tup ?hx ?_); (case hx => simp only [List.length_cons, List.length_nil]; decide))
  | ((with_reducible refine' l_lst ?hx ?_); (case hx => simp only [List.length_cons, List.length_nil]; decide))
  | ((with_reducible refine' l_isD ?hx ?_); (case hx => wtm_at "hf"))
  | ((with_reducible refine' l_dinI ?hx ?_); (case hx => wtm_at "hf"))
  | ((with_reducible refine' l_dinS ?hx ?_); (case hx => wtm_at "hf"))
  | ((with_reducible refine' l_dnotinI ?hx ?_); (case hx => wtm_at "hf"))
  | ((with_reducible refine' l_dnotinS ?hx ?_); (case hx => wtm_at "hf"))
  | ((with_reducible refine' l_dputI ?hr ?hx ?hz ?hy ?hw ?_); (case hr => wtm_at "run"); (case hx => wtm_at "hf"); (case hy => wtm_at "pk"); (case hz => wtm_at "sz"); (case hw => wtm_at "wr"); intro _ _ _ _)
  | ((with_reducible refine' l_dputS ?hr ?hx ?hz ?hy ?hw ?_); (case hr => wtm_at "run"); (case hx => wtm_at "hf"); (case hy => wtm_at "pk"); (case hz => wtm_at "sz"); (case hw => wtm_at "wr"); intro _ _ _ _)
  | ((with_reducible refine' l_dpopI ?hr ?hx ?hz ?hy ?hw ?_); (case hr => wtm_at "run"); (case hx => wtm_at "hf"); (case hy => wtm_at "pk"); (case hz => wtm_at "vk"); (case hw => wtm_at "wr"); intro _ _ _ _)
  | ((with_reducible refine' l_dpopS ?hr ?hx ?hz ?hy ?hw ?_); (case hr => wtm_at "run"); (case hx => wtm_at "hf"); (case hy => wtm_at "pk"); (case hz => wtm_at "vk"); (case hw => wtm_at "wr"); intro _ _ _ _)
  | ((with_reducible refine' l_dgetI ?hx ?hz ?_); (case hx => wtm_at "hf"); (case hz => wtm_at "vk"))
  | ((with_reducible refine' l_dgetS ?hx ?hz ?_); (case hx => wtm_at "hf"); (case hz => wtm_at "vk"))
  | ((with_reducible refine' l_dgetIF ?hx ?hz ?_); (case hx => wtm_at "hf"); (case hz => wtm_at "vk"))
  | ((with_reducible refine' l_dgetSF ?hx ?hz ?_); (case hx => wtm_at "hf"); (case hz => wtm_at "vk"))
  | ((with_reducible refine' l_dgetZ ?hx ?hz ?_); (case hx => wtm_at "hf"); (case hz => wtm_at "vk"))
  | ((with_reducible refine' k_disp ?hr ?_); (case hr => wtm_at "run"); intro _ _ _ _ _ _ _ _)
  | with_reducible refine k_pcons ?_
  | with_reducible refine k_pnil ?_
  | ((with_reducible refine' l_disp ?hr ?hx ?hu ?hv ?hy ?hw ?_); (case hr => wtm_at "run"); (case hx => wtm_at "hf"); (case hu => exact rfl); (case hv => simp only [List.length_map, List.length_cons, List.length_nil]; decide); (case hy => wtm_at "rm"); (case hw => wtm_at "wr"); intro _ _ _ _)
  | ((with_reducible refine' l_append ?hr ?hx ?hz ?hw ?_); (case hr => wtm_at "run"); (case hx => wtm_at "hf"); (case hz => wtm_at "sz"); (case hw => wtm_at "wr"); intro _ _ _ _)
  | ((with_reducible refine' l_isEt ?hx ?_); (case hx => first | exact isD (ExcK.kit (by assumption) _ (by wtm_at "mem") _ (by wtm_at "mem")) | exact isC (ExcK.kit (by assumption) _ (by wtm_at "mem") _ (by wtm_at "mem")) (by decide)))
  | ((with_reducible refine' l_isEV ?hx ?_); (case hx => exact ExcK.kitV (by assumption) _ (by wtm_at "mem")))
  | ((with_reducible refine' l_isiI ?hx ?_); (case hx => first | rfl | assumption))
  | ((with_reducible refine' l_isiB ?hx ?_); (case hx => first | rfl | assumption))
  | with_reducible refine l_isiSS ?_
  | ((with_reducible refine' l_isiS ?hx ?_); (case hx => first | rfl | assumption))
  | ((with_reducible refine' l_isiL ?hx ?_); (case hx => wtm_at "hf"))
  | ((with_reducible refine' l_isiO ?hx ?hy ?hz ?_); (case hx => wtm_at "hf"); (case hy => assumption); (case hz => assumption))
  | ((with_reducible refine' l_isiT ?hx ?_); (case hx => wtm_at "hf"))
  | ((with_reducible refine' l_lenL ?hx ?_); (case hx => wtm_at "sq"))
  | ((with_reducible refine' l_lenT ?hx ?_); (case hx => wtm_at "st"))
  | ((with_reducible refine' l_lenDK ?hx ?_); (case hx => wtm_at "hf"))
  | ((with_reducible refine' l_ixL ?hx ?hy ?_); (case hx => wtm_at "sq"); (case hy => wtm_at "ix"))
  | ((with_reducible refine' l_ixT ?hx ?hy ?_); (case hx => wtm_at "st"); (case hy => wtm_at "ix"))
  | with_reducible refine k_m1 ?_
  | with_reducible refine l_strX ?_
  | with_reducible refine l_sw ?_
  | ((with_reducible refine' x_addS ?hx ?hy ?hz ?_); (case hx => wtm_at "tx"); (case hy => wtm_at "tx"); (case hz => decide))
  | ((with_reducible refine' x_slS ?hx ?hz ?_); (case hx => wtm_at "tx"); (case hz => decide))
  | ((with_reducible refine' x_lenX ?hx ?hz ?_); (case hx => wtm_at "tx"); (case hz => decide))
  | with_reducible refine l_max ?_
  | with_reducible refine l_min ?_
  | with_reducible refine l_abs ?_
  | with_reducible refine k_sl ?_
  | with_reducible refine k_part ?_
  | with_reducible refine l_part ?_
  | with_reducible refine k_nopart ?_
  | with_reducible refine k_yes ?_
  | ((with_reducible refine' l_slL ?hr ?hx ?_); (case hr => wtm_at "run"); (case hx => wtm_at "sq"); intro _ _ _ _ _ _ _ _)
  | with_reducible refine k_lcL ?_
  | with_reducible refine k_lcR ?_
  | with_reducible refine k_for ?_
  | with_reducible refine k_zip ?_
  | with_reducible refine k_rng1 ?_
  | with_reducible refine k_rng2 ?_
  | with_reducible refine k_rng3 ?_
  | with_reducible refine k_makeS ?_
  | ((with_reducible refine' l_make ?hr ?_); (case hr => wtm_at "run"); intro _ _ _ _ _ _ _ _ _)
  | with_reducible refine k_ntt ?_
  | with_reducible refine k_ntf ?_
  | with_reducible refine k_clear ?_
  | ((with_reducible refine' l_clear ?hr ?hx ?hw ?_); (case hr => wtm_at "run"); (case hx => wtm_at "hf"); (case hw => wtm_at "wr"); intro _ _ _ _)
  | with_reducible refine k_ift ?_
  | with_reducible refine k_iff ?_
  | with_reducible refine g_name ?_
  | with_reducible refine k_revL ?_
  | ((with_reducible refine' l_tupL ?hx ?_); (case hx => wtm_at "sq"))
  | with_reducible refine l_intB ?_
  | ((with_reducible refine' l_rev ?hx ?_); (case hx => wtm_at "sq"))
  | ((with_reducible refine' l_gT2 ?hn ?hx ?_); (case hn => exact rfl); (case hx => wtm_at "st"))
  | ((with_reducible refine' l_listL ?hx ?_); (case hx => wtm_at "sq"))
  | ((with_reducible refine' l_listT ?hx ?_); (case hx => wtm_at "st"))
  | fail)
local macro_rules | `(tactic| wtm_at "pk") => `(tactic| with_reducible exact putK_aw)
local macro_rules | `(tactic| wtm_at "vk") => `(tactic| exact valV_aw (by assumption))
section
variable {K : PySem.W.Frag} {H : Hp} {wl : List (Int × Addr)} {ws : List (Int × WatS)}
theorem wl_keys (h : Paired (WatAt K H) wl ws) : wl.map (·.1) = ws.map (·.1) := by
  induction h with
  | nil => rfl
  | cons a t ih => rw [List.map_cons, List.map_cons, ih, a.1]
theorem wl_get (h : Paired (WatAt K H) wl ws) {i : Nat} {p : Int × Addr} (e : wl[i]? = some p) : ∃ x, ws[i]? = some x ∧ WatAt K H p x := by
  induction h generalizing i with
  | nil => cases e
  | cons a t ih =>
    cases i with
    | zero => exact ⟨_, rfl, by rw [← Option.some.inj (show some _ = some p from e)]; exact a⟩
    | succ i => exact ih (by simpa using e)
end
section
variable {P : Program} {w : World} {K : PySem.W.Frag} {mg : Str → Option Value} {base : Heap}
def sp_Room_trim (K : PySem.W.Frag) : Sp := fun vs H Q _ => ∃ p F R, vs = [.ref p] ∧ RoomAt K H p F R ∧ WOk R ∧ R.ws.length ≤ 1000 ∧ R.G.rows.length ≤ 900000 ∧
  ∀ u, (R.ws = [] → u = R.G.last) → (R.ws ≠ [] → ∃ x ∈ R.ws, u = x.2.had) → (∀ x ∈ R.ws, u ≤ x.2.had) → ∀ H' F', RoomAt K H' p F' { R with G := R.G.forget u } → Grow H F F' → Ext F H H' → Q (.int (R.G.many u)) H'
theorem sc_Room_trim : FnScope ["self", "upto", "one"] ["self"] (defScope s_Room_trim) := ⟨rfl, rfl, rfl, by decide +kernel, rfl, by decide +kernel, by decide +kernel⟩
theorem ok_Room_trim (T : FX K mg) : FnOk P w K mg base (L2N.CX P w) 2 (He.ma K (He.ga K "Room") "trim") (fdAt K ("Room", some "trim")) ["self"] (sp_Room_trim K) := by
  refine FunD.ok T.F_Room_trim sc_Room_trim (fun vs H Q E h => ?_) (fun cdv A outer s H vs Q E hr h => ?_)
  · (repeat (obtain ⟨_, h⟩ := h)); subst_vars; rfl
  · have hu := hu_of hr
    have hu64 := hr.units
    refine ⟨_,
      (pss_cons
        (ps_set (i := 1) sc_Room_trim.nd rfl (Or.inl rfl) (pe_minD rfl (by rfl) T.f_min (pa_cons (pe_lock (pe_lc (own := [("one", 2)]) (g := gName 2) rfl sc_Room_trim.nd (pi_keys (pe_fldC T.cl_Room T.na_Room_watchers (pv 0))) (blkOk_by (N := ["self", "upto", "one"]) (sc := defScope s_Room_trim) (by decide +kernel)) (fun _ _ _ _ _ => (pg_name (i := 2) sc_Room_trim.nd rfl (Or.inl rfl))) (fun _ _ _ _ _ => pts_nil) (fun _ _ _ _ _ => (pe_fldC T.cl_Watcher T.na_Watcher_had (pe_dget hu (pe_fldC T.cl_Room T.na_Room_watchers (pv 0)) (pv 2) (fun _ _ => rfl)))))) pa_nil) (pe_meth0S (pe_fldC T.cl_Room T.na_Room_log (pv 0)) T.cl_Log T.me_Log_last (ok_Log_last T) (hr.mono (j := 1) (by decide)) T.b_Log_last (fun σ => L2N.passAt tkd σ))))
      (pss_one
        (ps_ret (pe_methS (pe_fldC T.cl_Room T.na_Room_log (pv 0)) T.cl_Log T.me_Log_forget (ok_Log_forget T) (hr.mono (j := 1) (by decide)) T.b_Log_forget (fun σ => L2N.passAt tkd σ) (pa_cons (pv 1) pa_nil))))), ?_⟩
    obtain ⟨p, F, R, rfl, ⟨X, Fp, rfl, S⟩, wok, zw, zg, k⟩ := h
    obtain ⟨em, dx, hp⟩ := S.r .me
    obtain ⟨wl, ew, hw, nw, pw⟩ := id (S.r .wa)
    have hg := S.r .lo
    have lw := Paired.length pw
    have npw : p ≠ X.pw := fun z => S.sep.ap .me .wa (by simp) p (by rw [em]; simp) (by rw [z, ew]; simp)
    have hws : ∀ x ∈ wl, x.2 ≠ X.pw := fun x hx z => by
      rw [ew, List.nodup_cons] at nw
      exact nw.1 (by rw [← z]; exact List.mem_map_of_mem (f := (·.2)) hx)
    have ndk : (wl.map (·.1)).Nodup := by rw [wl_keys pw]; exact wok.nd
    have zwl : wl.length ≤ 1000000 := by omega
    repeat wtm_at "k"
    refine lc_keysI (j := 2) hw (by wtm_at "sz") (fun od R hR => ?_) (fun m acc H' => acc = (R.ws.take m.length).map fun x => V.int x.2.had) rfl (fun m acc H1 H2 t h => h) (fun i p1 od acc H1 R1 R0 el hf hk hl hP q1 q0 => ?_) (fun D H' acc nD e hD lD hP => ?_)
    · have hp2 : upd H X.pw (.frz od (.dK (ik aw wl))) p = some _ := (upd_ne npw).trans hp
      repeat wtm_at "k"
      exact hR
    · obtain ⟨x, ex, e1, dxa, ha⟩ := wl_get pw el
      have pm := List.mem_of_getElem? el
      have ga : aget wl p1.1 = some p1.2 := aget_of_mem ndk pm
      have hp1 := hk _ _ npw hp
      have ha1 := hk _ _ (hws _ pm) ha
      repeat wtm_at "k"
      refine q1 _ _ (Ext.refl _ _) ?_
      have li : i < R.ws.length := by
        rcases Nat.lt_or_ge i R.ws.length with z | z
        · exact z
        · rw [List.getElem?_eq_none z] at ex; cases ex
      have l1 : (wl.take i).length = i := by rw [List.length_take]; omega
      rw [l1] at hP
      rw [List.length_append, l1]
      show acc ++ [V.int x.2.had] = (R.ws.take (i + 1)).map _
      rw [take_succ ex, List.map_append, hP]
      rfl
    · have hp2 := e.keep _ _ hp (by simp)
      have S2 := S.ext e (zero _)
      have hg2 := S2.r .lo
      rw [lw, List.take_length] at hP
      have eh : acc = (R.ws.map fun x => x.2.had).map V.int := by rw [hP, List.map_map]; rfl
      obtain ⟨em2, dx2, hp2⟩ := S2.r .me
      obtain ⟨pr, dg, gys, eg, ng, g1, g2, g3⟩ := id hg2
      rw [eh] at hD
      have fin : ∀ u, (R.ws = [] → u = R.G.last) → (R.ws ≠ [] → ∃ x ∈ R.ws, u = x.2.had) → (∀ x ∈ R.ws, u ≤ x.2.had) → ∀ H2 G, LogAt K H2 X.pg G (R.G.forget u) → Grow H' (Fp .lo) G → Ext (Fp .lo) H' H2 → Q (.int (R.G.many u)) H2 := by
        intro u q1 q2 q3 H2 G h2 gr e2
        have e02 : Ext (Fp .lo) H H2 := (e.sub (by simp)).trans e2
        have gr0 : Grow H (Fp .lo) G := fun c hc => (gr c hc).imp id fun z => e.free z (by simp)
        exact k u q1 q2 q3 H2 _ ⟨X, _, rfl, RIn.step .lo S e02 gr0 h2 prt_lo⟩ (flat_grow gr0) (ext_flat e02)
      repeat wtm_at "k"
      refine ⟨X.pg, _, R.G, rfl, hg2, ?_⟩
      repeat wtm_at "k"
      refine l_minD (SqL.of hD) (fun hn => ?_) fun u hu hle => ?_
      · have e0 : R.ws = [] := List.map_eq_nil_iff.mp hn
        repeat wtm_at "k"
        exact ⟨X.pg, _, R.G, _, rfl, hg2, zg, fun H2 G h2 gr e2 => fin _ (fun _ => rfl) (fun z => absurd e0 z) (fun x hx => by rw [e0] at hx; cases hx) H2 G h2 gr e2⟩
      · repeat wtm_at "k"
        obtain ⟨x, hx, ex⟩ := List.mem_map.mp hu
        exact ⟨X.pg, _, R.G, _, rfl, hg2, zg, fun H2 G h2 gr e2 => fin u (fun z => by rw [z] at hx; cases hx) (fun _ => ⟨x, hx, ex.symm⟩) (fun y hy => hle _ (List.mem_map_of_mem (f := fun x : Int × WatS => x.2.had) hy)) H2 G h2 gr e2⟩
end
end LW

set_option maxHeartbeats 4000000
namespace LW
open PySem PySem.Spec PyProof.Rows L2
/-! ### a log and its mirror -/
def Num (s : Int) (l : List Row) : Prop := ∀ (i : Nat) (r : Row), l[i]? = some r → r.n = s + (i : Int) + 1
theorem Num.tail {s : Int} {r : Row} {l : List Row} (h : Num s (r :: l)) : Num (s + 1) l := fun i q e => by
  have := h (i + 1) q (by simpa using e)
  rw [this]; omega
theorem Num.drop : ∀ {s : Int} {l : List Row} (g : Nat), Num s l → Num (s + g) (l.drop g)
  | s, l, 0, h => by simpa using h
  | s, [], g + 1, h => fun i r e => by simp at e
  | s, r :: l, g + 1, h => by
    have := Num.drop g h.tail
    rw [List.drop_succ_cons]
    have e : s + ((g + 1 : Nat) : Int) = s + 1 + (g : Int) := by omega
    rw [e]; exact this
theorem Num.filter : ∀ {s : Int} {l : List Row} (u : Int), Num s l → l.filter (fun r => decide (u < r.n)) = l.drop (u - s).toNat
  | s, [], u, h => by simp
  | s, r :: l, u, h => by
    have e : r.n = s + 1 := by have := h 0 r rfl; omega
    have ih := Num.filter u h.tail
    by_cases c : u < r.n
    · rw [List.filter_cons, if_pos (decide_eq_true c), ih]
      have a : (u - s).toNat = 0 := by omega
      have b : (u - (s + 1)).toNat = 0 := by omega
      rw [a, b]; rfl
    · rw [List.filter_cons, if_neg (by simpa using c), ih]
      have a : (u - s).toNat = (u - (s + 1)).toNat + 1 := by omega
      rw [a]; rfl
theorem Num.snoc {s : Int} {l : List Row} {r : Row} (h : Num s l) (e : r.n = s + l.length + 1) : Num s (l ++ [r]) := fun i q eq => by
  rcases Nat.lt_trichotomy i l.length with z | z | z
  · rw [List.getElem?_append_left z] at eq; exact h i q eq
  · rw [z, List.getElem?_append_right (Nat.le_refl _), Nat.sub_self] at eq
    have : r = q := by simpa using eq
    rw [← this, e, z]
  · rw [List.getElem?_append_right (by omega)] at eq
    rw [List.getElem?_eq_none (by simp; omega)] at eq
    cases eq
/-- the log L beside the mirror M: all rows, how many were forgotten -/
structure Jl (L M : LogS) : Prop where
  rw' : L.rows = M.rows.drop M.gone.toNat
  gn : L.gone = M.gone
  g0 : 0 ≤ M.gone
  gl : M.gone ≤ M.rows.length
  nm : Num 0 M.rows
theorem Jl.last {L M : LogS} (J : Jl L M) : L.last = M.rows.length := by
  unfold LogS.last
  rw [J.rw', J.gn, List.length_drop]
  have := J.g0; have := J.gl
  omega
theorem Jl.num {L M : LogS} (J : Jl L M) : Num M.gone L.rows := by
  have := J.nm.drop M.gone.toNat
  rw [J.rw']
  have e : (0 : Int) + (M.gone.toNat : Int) = M.gone := by have := J.g0; omega
  rw [e] at this
  exact this
theorem Jl.len {L M : LogS} (J : Jl L M) : L.rows.length ≤ M.rows.length := by rw [J.rw', List.length_drop]; omega
theorem Jl.new : Jl ⟨[], 0⟩ ⟨[], 0⟩ := ⟨rfl, rfl, by decide, by decide, fun i r e => by simp at e⟩
theorem Jl.note {L M : LogS} (J : Jl L M) {r : Row} (e : r.n = M.rows.length + 1) : Jl (L.note r) (M.note r) := by
  have := J.g0; have := J.gl
  refine ⟨?_, J.gn, J.g0, ?_, J.nm.snoc (by omega)⟩
  · show L.rows ++ [r] = (M.rows ++ [r]).drop M.gone.toNat
    rw [List.drop_append_of_le_length (by omega), J.rw']
  · show M.gone ≤ (M.rows ++ [r]).length
    rw [List.length_append]; omega
theorem Jl.forget {L M : LogS} (J : Jl L M) {u : Int} (h : 0 ≤ u) : Jl (L.forget u) ⟨M.rows, M.gone + max 0 (min u M.rows.length - M.gone)⟩ ∧ L.many u = max 0 (min u M.rows.length - M.gone) := by
  have h0 := J.g0; have h1 := J.gl
  have ek : L.kept u = L.rows.drop (u - M.gone).toNat := J.num.filter u
  have em : L.many u = max 0 (min u M.rows.length - M.gone) := by
    unfold LogS.many
    rw [ek, List.length_drop, J.rw', List.length_drop]
    omega
  refine ⟨⟨?_, ?_, ?_, ?_, J.nm⟩, em⟩
  · show L.kept u = M.rows.drop (M.gone + max 0 (min u M.rows.length - M.gone)).toNat
    rw [ek, J.rw', List.drop_drop]
    by_cases c : u ≤ M.rows.length
    · congr 1; omega
    · rw [List.drop_of_length_le (by omega), List.drop_of_length_le (by omega)]
  · show L.gone + L.many u = M.gone + _
    rw [em, J.gn]
  · show 0 ≤ M.gone + _; omega
  · show M.gone + _ ≤ (M.rows.length : Int); omega
end LW

set_option maxHeartbeats 4000000
namespace LW
open PySem PySem.Spec PyProof.Rows L2
local macro_rules | `(tactic| wtm_at "vk") => `(tactic| first
  | assumption
  | with_reducible exact rv_mf_given
  | with_reducible exact rv_mf_free
  | exact valV_sv (by assumption)
  | exact valV_iv (by assumption)
  | fail)
local macro_rules | `(tactic| wtm_at "pk") => `(tactic| first
  | with_reducible exact putK_iv
  | with_reducible exact dropK_ik
  | with_reducible exact dropK_sk
  | with_reducible exact rp_mf_given
  | with_reducible exact rp_mf_free
  | exact putK_sv
  | assumption
  | fail)
local macro_rules | `(tactic| wtm_at "rm") => `(tactic| first
  | with_reducible exact rm_mf
  | exact rfl
  | fail)
local macro_rules | `(tactic| wtm_at "rl") => `(tactic| first
  | with_reducible exact rl_mf
  | with_reducible assumption
  | fail)
local macro_rules | `(tactic| wtm_at "lk") => `(tactic| with_reducible first
  | exact lk_Ear_behind
  | exact lk_Ear_begun
  | exact lk_Ear_rows
  | exact lk_Line_room
  | exact lk_Line_watcher
  | exact lk_Line_ear
  | exact lk_Leases_given
  | exact lk_Leases_spans
  | exact lk_Leases_ends
  | exact lk_Log_rows
  | exact lk_Log_gone
  | exact lk_Watcher_prefix
  | exact lk_Watcher_had
  | exact lk_Watcher_told
  | exact lk_Room_now
  | exact lk_Room_leases
  | exact lk_Room_log
  | exact lk_Room_kept
  | exact lk_Room_watchers
  | exact lk_Room_met
  | fail)
local macro_rules | `(tactic| wtm_at "lm") => `(tactic| with_reducible first
  | exact lm_Ear_hear
  | exact lm_Ear_heard
  | exact lm_Ear_state
  | exact lm_Line_turn
  | exact lm_Leases_grant
  | exact lm_Leases_need
  | exact lm_Leases_renew
  | exact lm_Leases_drop
  | exact lm_Leases_due
  | exact lm_Log_note
  | exact lm_Log_last
  | exact lm_Log_first
  | exact lm_Log_wanted
  | exact lm_Log_forget
  | exact lm_Room_grant
  | exact lm_Room_renew
  | exact lm_Room_drop
  | exact lm_Room_wait
  | exact lm_Room_free
  | exact lm_Room_put
  | exact lm_Room_cut
  | exact lm_Room_value
  | exact lm_Room_holder
  | exact lm_Room_pairs
  | exact lm_Room_last
  | exact lm_Room_first
  | exact lm_Room_watch
  | exact lm_Room_need
  | exact lm_Room_pull
  | exact lm_Room_confirm
  | exact lm_Room_broken
  | exact lm_Room_leave
  | exact lm_Room_trim
  | fail)
local macro_rules | `(tactic| wtm_at "pt") => `(tactic| with_reducible first
  | exact pt_Ear_behind
  | exact pt_Ear_begun
  | exact pt_Ear_rows
  | exact pi_Ear_0
  | exact pi_Ear_1
  | exact pi_Ear_2
  | exact pt_Line_room
  | exact pt_Line_watcher
  | exact pt_Line_ear
  | exact pi_Line_0
  | exact pi_Line_1
  | exact pi_Line_2
  | exact pt_Leases_given
  | exact pt_Leases_spans
  | exact pt_Leases_ends
  | exact pi_Leases_0
  | exact pi_Leases_1
  | exact pi_Leases_2
  | exact pt_Log_rows
  | exact pt_Log_gone
  | exact pi_Log_0
  | exact pi_Log_1
  | exact pt_Watcher_prefix
  | exact pt_Watcher_had
  | exact pt_Watcher_told
  | exact pi_Watcher_0
  | exact pi_Watcher_1
  | exact pi_Watcher_2
  | exact pt_Room_now
  | exact pt_Room_leases
  | exact pt_Room_log
  | exact pt_Room_kept
  | exact pt_Room_watchers
  | exact pt_Room_met
  | exact pi_Room_0
  | exact pi_Room_1
  | exact pi_Room_2
  | exact pi_Room_3
  | exact pi_Room_4
  | exact pi_Room_5
  | fail)
local macro_rules | `(tactic| wtm_at "lz") => `(tactic| with_reducible first
  | exact lz_Ear
  | exact lz_Line
  | exact lz_Leases
  | exact lz_Log
  | exact lz_Watcher
  | exact lz_Room
  | (simp only [List.length_cons, List.length_nil]; decide)
  | exact (by decide)
  | fail)
local macro_rules | `(tactic| wtm_at "hf") => `(tactic| first
  | assumption
  | (refine' hf_s ?hs ?hx; (case hs => assumption); (case hx => wtm_at "hf"))
  | (refine' hf_n ?hs ?hx ?ne; (case hs => assumption); (case hx => wtm_at "hf"); (case ne => wtm_at "ne"))
  | (refine' hf_e ?hs ?hx ?hy; (case hs => assumption); (case hx => wtm_at "hf"); (case hy => wtm_at "nin"))
  | fail)
local macro_rules | `(tactic| wtm_at "ne") => `(tactic| first
  | assumption
  | (apply Ne.symm; assumption)
  | (refine' ne_of_none ?hx ?hy; (case hy => assumption); (case hx => wtm_at "hf"))
  | (refine' (ne_of_none ?hx ?hy).symm; (case hy => assumption); (case hx => wtm_at "hf"))
  | (refine' ne_of ?hx ?hy ?hz; (case hx => assumption); (case hy => assumption); (case hz => intro z; cases z))
  | fail)
local macro_rules | `(tactic| wtm_at "nin") => `(tactic| first
  | assumption
  | exact notin_nil
  | (refine' notin_cons ?hx ?hy; (case hx => wtm_at "ne"); (case hy => wtm_at "nin"))
  | fail)
local macro_rules | `(tactic| wtm_at "mem") => `(tactic| first
  | assumption
  | exact List.mem_cons_self
  | (refine' List.mem_cons_of_mem _ ?hx; (case hx => wtm_at "mem"))
  | fail)
local macro_rules | `(tactic| wtm_at "wr") => `(tactic| first
  | exact Or.inr (by assumption)
  | exact Or.inl (by wtm_at "mem")
  | fail)
local macro_rules | `(tactic| wtm_at "lv") => `(tactic| first
  | assumption
  | exact Live.nil
  | (refine' Live.cons ?hx ?hy; (case hx => wtm_at "hf"); (case hy => wtm_at "lv"))
  | fail)
local macro_rules | `(tactic| wtm_at "run") => `(tactic| first
  | assumption
  | (refine' Run.same ?hx ?hy; (case hy => assumption); (case hx => wtm_at "run"))
  | fail)
local macro_rules | `(tactic| wtm_at "sq") => `(tactic| first
  | assumption
  | (refine' Run.seq ?hx ?hy; (case hx => assumption); (case hy => assumption))
  | (refine' SqL.of ?hx; (case hx => wtm_at "hf"))
  | (refine' Same.seq ?hx ?hy; (case hx => assumption); (case hy => wtm_at "sq"))
  | (refine' Ext.seqL ?hx ?hz ?hy; (case hx => assumption); (case hy => wtm_at "sq"); (case hz => wtm_at "nin"))
  | fail)
local macro_rules | `(tactic| wtm_at "st") => `(tactic| first
  | assumption
  | (refine' SqT.of ?hx; (case hx => wtm_at "hf"))
  | fail)
local macro_rules | `(tactic| wtm_at "ix") => `(tactic| first
  | assumption
  | exact rfl
  | fail)
local macro_rules | `(tactic| wtm_at "sz") => `(tactic| first
  | wtm_at "rl"
  | with_reducible assumption
  | (rw [ik_len]; wtm_at "sz")
  | (rw [sk_len]; wtm_at "sz")
  | exact smallM (by assumption)
  | exact smallM (by omega)
  | exact smallM (by simp only [List.length_cons, List.length_nil, List.length_append, List.length_map]; omega)
  | fail)
local macro_rules | `(tactic| wtm_at "tx") => `(tactic| first
  | assumption
  | ((with_reducible refine' Tx.app ?hx ?hy); (case hx => wtm_at "tx"); (case hy => wtm_at "tx"))
  | ((with_reducible refine' Tx.cut ?hx); (case hx => wtm_at "tx"))
  | with_reducible exact Tx.nil
  | fail)
local macro_rules | `(tactic| wtm_at "k") => `(tactic| first
  | with_reducible refine k_seq ?_
  | with_reducible refine k_next ?_
  | with_reducible refine k_asg ?_
  | with_reducible refine k_ret ?_
  | with_reducible refine k_retN ?_
  | with_reducible refine k_asgS ?_
  | ((with_reducible refine' l_setL ?hr ?hx ?he ?h2 ?hw ?_); (case hr => wtm_at "run"); (case hx => wtm_at "hf"); (case he => exact rfl); (case h2 => exact rfl); (case hw => wtm_at "wr"); intro _ _ _ _)
  | with_reducible refine k_minD ?_
  | with_reducible refine k_drop ?_
  | with_reducible refine k_ifS ?_
  | ((with_reducible refine' k_var ?hx ?_); (case hx => exact rfl))
  | with_reducible refine k_c ?_
  | with_reducible refine k_negc ?_
  | with_reducible refine k_neg ?_
  | with_reducible refine l_neg ?_
  | with_reducible refine k_op ?_
  | with_reducible refine k_cb ?_
  | with_reducible refine k_nil ?_
  | with_reducible refine k_cons ?_
  | with_reducible refine k_test ?_
  | with_reducible refine k_B ?_
  | with_reducible refine k_not ?_
  | with_reducible refine k_and ?_
  | with_reducible refine k_or ?_
  | with_reducible refine k_notV ?_
  | with_reducible refine k_andV ?_
  | with_reducible refine k_orV ?_
  | with_reducible refine k_bl ?_
  | with_reducible refine k_add ?_
  | with_reducible refine k_sub ?_
  | ((with_reducible refine' k_mod ?hx ?_); (case hx => first | decide | omega))
  | ((with_reducible refine' k_div ?hx ?_); (case hx => first | exact ⟨by decide, by decide⟩ | exact ⟨by omega, by omega⟩))
  | ((with_reducible refine' k_mul ?hx ?_); (case hx => first | exact Or.inl ⟨by decide, by decide⟩ | exact Or.inr ⟨by decide, by decide⟩ | exact Or.inl ⟨by omega, by omega⟩))
  | with_reducible refine k_chain ?_
  | with_reducible refine k_p6 ?_
  | with_reducible refine k_p9 ?_
  | with_reducible refine k_p12 ?_
  | with_reducible refine k_p13 ?_
  | with_reducible refine k_p18 ?_
  | with_reducible refine k_p30 ?_
  | with_reducible refine k_lt ?_
  | with_reducible refine k_le ?_
  | with_reducible refine k_gt ?_
  | with_reducible refine k_ge ?_
  | with_reducible refine k_eq ?_
  | with_reducible refine k_ne ?_
  | with_reducible refine k_seqS ?_
  | with_reducible refine k_neS ?_
  | with_reducible refine k_neB ?_
  | with_reducible refine k_isN ?_
  | with_reducible refine k_noN ?_
  | with_reducible refine k_fld ?_
  | ((with_reducible refine' l_fld ?hx ?hy ?_); (case hx => wtm_at "hf"); (case hy => wtm_at "lk"))
  | with_reducible refine k_fldS ?_
  | ((with_reducible refine' l_fldS ?hr ?hx ?hz ?hy ?hw ?_); (case hr => wtm_at "run"); (case hx => wtm_at "hf"); (case hy => wtm_at "pt"); (case hz => wtm_at "lz"); (case hw => wtm_at "wr"); intro _ _ _ _)
  | ((with_reducible refine' l_new ?hr ?_); (case hr => wtm_at "run"); intro _ _ _ _ _ _ _ _)
  | with_reducible refine k_append ?_
  | ((with_reducible refine' l_tyL ?hx ?_); (case hx => wtm_at "hf"))
  | ((with_reducible refine' l_ins ?hx ?hy ?_); (case hx => wtm_at "hf"); (case hy => wtm_at "lm"))
  | with_reducible refine k_methS ?_
  | with_reducible refine k_methG ?_
  | with_reducible refine k_makeG ?_
  | with_reducible refine k_meth0 ?_
  | with_reducible refine k_callS ?_
  | with_reducible refine k_callE ?_
  | with_reducible refine k_dget ?_
  | with_reducible refine k_din ?_
  | with_reducible refine k_dnotin ?_
  | with_reducible refine k_dput ?_
  | with_reducible refine k_dpop ?_
  | with_reducible refine k_dget2 ?_
  | with_reducible refine k_tup ?_
  | with_reducible refine k_lst ?_
  | with_reducible refine k_dnew ?_
  | ((with_reducible refine' l_tup ?hx ?_); (case hx => simp only [List.length_cons, List.length_nil]; decide))
  | ((with_reducible refine' l_lst ?hx ?_); (case hx => simp only [List.length_cons, List.length_nil]; decide))
  | ((with_reducible refine' l_isD ?hx ?_); (case hx => wtm_at "hf"))
  | ((with_reducible refine' l_dinI ?hx ?_); (case hx => wtm_at "hf"))
  | ((with_reducible refine' l_dinS ?hx ?_); (case hx => wtm_at "hf"))
  | ((with_reducible refine' l_dnotinI ?hx ?_); (case hx => wtm_at "hf"))
  | ((with_reducible refine' l_dnotinS ?hx ?_); (case hx => wtm_at "hf"))
  | ((with_reducible refine' l_dputI ?hr ?hx ?hz ?hy ?hw ?_); (case hr => wtm_at "run"); (case hx => wtm_at "hf"); (case hy => wtm_at "pk"); (case hz => wtm_at "sz"); (case hw => wtm_at "wr"); intro _ _ _ _)
  | ((with_reducible refine' l_dputS ?hr ?hx ?hz ?hy ?hw ?_); (case hr => wtm_at "run"); (case hx => wtm_at "hf"); (case hy => wtm_at "pk"); (case hz => wtm_at "sz"); (case hw => wtm_at "wr"); intro _ _ _ _)
  | ((with_reducible refine' l_dpopI ?hr ?hx ?hz ?hy ?hw ?_); (case hr => wtm_at "run"); (case hx => wtm_at "hf"); (case hy => wtm_at "pk"); (case hz => wtm_at "vk"); (case hw => wtm_at "wr"); intro _ _ _ _)
  | ((with_reducible refine' l_dpopS ?hr ?hx ?hz ?hy ?hw ?_); (case hr => wtm_at "run"); (case hx => wtm_at "hf"); (case hy => wtm_at "pk"); (case hz => wtm_at "vk"); (case hw => wtm_at "wr"); intro _ _ _ _)
  | ((with_reducible refine' l_dgetI ?hx ?hz ?_); (case hx => wtm_at "hf"); (case hz => wtm_at "vk"))
  | ((with_reducible refine' l_dgetS ?hx ?hz ?_); (case hx => wtm_at "hf"); (case hz => wtm_at "vk"))
  | ((with_reducible refine' l_dgetIF ?hx ?hz ?_); (case hx => wtm_at "hf"); (case hz => wtm_at "vk"))
  | ((with_reducible refine' l_dgetSF ?hx ?hz ?_); (case hx => wtm_at "hf"); (case hz => wtm_at "vk"))
  | ((with_reducible refine' l_dgetZ ?hx ?hz ?_); (case hx => wtm_at "hf"); (case hz => wtm_at "vk"))
  | ((with_reducible refine' k_disp ?hr ?_); (case hr => wtm_at "run"); intro _ _ _ _ _ _ _ _)
  | with_reducible refine k_pcons ?_
  | with_reducible refine k_pnil ?_
  | ((with_reducible refine' l_disp ?hr ?hx ?hu ?hv ?hy ?hw ?_); (case hr => wtm_at "run"); (case hx => wtm_at "hf"); (case hu => exact rfl); (case hv => simp only [List.length_map, List.length_cons, List.length_nil]; decide); (case hy => wtm_at "rm"); (case hw => wtm_at "wr"); intro _ _ _ _)
  | ((with_reducible refine' l_append ?hr ?hx ?hz ?hw ?_); (case hr => wtm_at "run"); (case hx => wtm_at "hf"); (case hz => wtm_at "sz"); (case hw => wtm_at "wr"); intro _ _ _ _)
  | ((with_reducible refine' l_isEt ?hx ?_); (case hx => first | exact isD (ExcK.kit (by assumption) _ (by wtm_at "mem") _ (by wtm_at "mem")) | exact isC (ExcK.kit (by assumption) _ (by wtm_at "mem") _ (by wtm_at "mem")) (by decide)))
  | ((with_reducible refine' l_isEV ?hx ?_); (case hx => exact ExcK.kitV (by assumption) _ (by wtm_at "mem")))
  | ((with_reducible refine' l_isiI ?hx ?_); (case hx => first | rfl | assumption))
  | ((with_reducible refine' l_isiB ?hx ?_); (case hx => first | rfl | assumption))
  | with_reducible refine l_isiSS ?_
  | ((with_reducible refine' l_isiS ?hx ?_); (case hx => first | rfl | assumption))
  | ((with_reducible refine' l_isiL ?hx ?_); (case hx => wtm_at "hf"))
  | ((with_reducible refine' l_isiO ?hx ?hy ?hz ?_); (case hx => wtm_at "hf"); (case hy => assumption); (case hz => assumption))
  | ((with_reducible refine' l_isiT ?hx ?_); (case hx => wtm_at "hf"))
  | ((with_reducible refine' l_lenL ?hx ?_); (case hx => wtm_at "sq"))
  | ((with_reducible refine' l_lenT ?hx ?_); (case hx => wtm_at "st"))
  | ((with_reducible refine' l_lenDK ?hx ?_); (case hx => wtm_at "hf"))
  | ((with_reducible refine' l_ixL ?hx ?hy ?_); (case hx => wtm_at "sq"); (case hy => wtm_at "ix"))
  | ((with_reducible refine' l_ixT ?hx ?hy ?_); (case hx => wtm_at "st"); (case hy => wtm_at "ix"))
  | with_reducible refine k_m1 ?_
  | with_reducible refine l_strX ?_
  | with_reducible refine l_sw ?_
  | ((with_reducible refine' x_addS ?hx ?hy ?hz ?_); (case hx => wtm_at "tx"); (case hy => wtm_at "tx"); (case hz => decide))
  | ((with_reducible refine' x_slS ?hx ?hz ?_); (case hx => wtm_at "tx"); (case hz => decide))
  | ((with_reducible refine' x_lenX ?hx ?hz ?_); (case hx => wtm_at "tx"); (case hz => decide))
  | with_reducible refine l_max ?_
  | with_reducible refine l_min ?_
  | with_reducible refine l_abs ?_
  | with_reducible refine k_sl ?_
  | with_reducible refine k_part ?_
  | with_reducible refine l_part ?_
  | with_reducible refine k_nopart ?_
  | with_reducible refine k_yes ?_
  | ((with_reducible refine' l_slL ?hr ?hx ?_); (case hr => wtm_at "run"); (case hx => wtm_at "sq"); intro _ _ _ _ _ _ _ _)
  | with_reducible refine k_lcL ?_
  | with_reducible refine k_lcR ?_
  | with_reducible refine k_for ?_
  | with_reducible refine k_zip ?_
  | with_reducible refine k_rng1 ?_
  | with_reducible refine k_rng2 ?_
  | with_reducible refine k_rng3 ?_
  | with_reducible refine k_makeS ?_
  | ((with_reducible refine' l_make ?hr ?_); (case hr => wtm_at "run"); intro _ _ _ _ _ _ _ _ _)
  | with_reducible refine k_ntt ?_
  | with_reducible refine k_ntf ?_
  | with_reducible refine k_clear ?_
  | ((with_reducible refine' l_clear ?hr ?hx ?hw ?_); (case hr => wtm_at "run"); (case hx => wtm_at "hf"); (case hw => wtm_at "wr"); intro _ _ _ _)
  | with_reducible refine k_ift ?_
  | with_reducible refine k_iff ?_
  | with_reducible refine g_name ?_
  | with_reducible refine k_revL ?_
  | ((with_reducible refine' l_tupL ?hx ?_); (case hx => wtm_at "sq"))
  | with_reducible refine l_intB ?_
  | ((with_reducible refine' l_rev ?hx ?_); (case hx => wtm_at "sq"))
  | ((with_reducible refine' l_gT2 ?hn ?hx ?_); (case hn => exact rfl); (case hx => wtm_at "st"))
  | ((with_reducible refine' l_listL ?hx ?_); (case hx => wtm_at "sq"))
  | ((with_reducible refine' l_listT ?hx ?_); (case hx => wtm_at "st"))
  | fail)
/-! ### the line -/
def LineAt (K : PySem.W.Frag) (H : Hp) (l : Addr) (F : List Addr) (p : Addr) (n : Int) (E : EarS) : Prop :=
  ∃ dx e Fe, F = l :: Fe ∧ H l = some (.ins (He.ga K "Line") dx (fl_Line (.ref p) (.int n) (.ref e))) ∧ EarAt K H e Fe E ∧ l ∉ Fe
theorem LineAt.ext {K : PySem.W.Frag} {H H' : Hp} {l p : Addr} {F G : List Addr} {n : Int} {E : EarS} (h : LineAt K H l F p n E) (e : Ext G H H') (a : Apart F G) : LineAt K H' l F p n E := by
  obtain ⟨dx, ea, Fe, rfl, h1, h2, h3⟩ := h
  exact ⟨dx, ea, Fe, rfl, e.keep _ _ h1 (a _ (by simp)), h2.ext e fun c hc => a c (List.mem_cons_of_mem _ hc), h3⟩
theorem LineAt.live {K : PySem.W.Frag} {H : Hp} {l p : Addr} {F : List Addr} {n : Int} {E : EarS} (h : LineAt K H l F p n E) : Live H F := by
  obtain ⟨dx, ea, Fe, rfl, h1, h2, h3⟩ := h
  exact Live.cons h1 h2.live
theorem setW_setW {R : RoomS} {n : Int} {y z : WatS} : (R.setW n y).setW n z = R.setW n z := by
  unfold RoomS.setW
  have e : (R.ws.map fun p => if p.1 = n then (p.1, y) else p).map (fun p => if p.1 = n then (p.1, z) else p) = R.ws.map fun p => if p.1 = n then (p.1, z) else p := by
    rw [List.map_map]
    refine List.map_congr_left fun p _ => ?_
    show (if (if p.1 = n then (p.1, y) else p).1 = n then ((if p.1 = n then (p.1, y) else p).1, z) else (if p.1 = n then (p.1, y) else p)) = _
    by_cases c : p.1 = n
    · simp only [if_pos c]
    · simp only [if_neg c]
  show ({ R with ws := _ } : RoomS) = _
  rw [e]
theorem ws_setW {l : List (Int × WatS)} {k : Int} {x y : WatS} (h : aget l k = some x) : aget (l.map fun p => if p.1 = k then (p.1, y) else p) k = some y := by
  rw [← aput_old h, aget_aput, if_pos rfl]
theorem ws_keys {l : List (Int × WatS)} {k : Int} {y : WatS} : (l.map fun p => if p.1 = k then (p.1, y) else p).map (·.1) = l.map (·.1) := by
  rw [List.map_map]
  refine List.map_congr_left fun p _ => ?_
  show (if p.1 = k then (p.1, y) else p).1 = p.1
  split <;> rfl
theorem WOk.setW {R : RoomS} (h : WOk R) {k : Int} {y : WatS} : WOk (R.setW k y) := by
  refine ⟨?_, fun j hj => ?_⟩
  · show ((R.ws.map fun p => if p.1 = k then (p.1, y) else p).map (·.1)).Nodup
    rw [ws_keys]; exact h.nd
  · have hj : j ∈ (R.ws.map fun p => if p.1 = k then (p.1, y) else p).map (·.1) := hj
    rw [ws_keys] at hj
    exact h.le j hj
/-- what the ear hears of a row -/
def cutL (luck : Int) (rs : List Row) : List Row := if luck = 1 then [] else if luck = 3 then rs.take (rs.length / 2) else rs
/-- the watcher behind a turn -/
def lineX (R : RoomS) (x : WatS) (most luck : Int) : WatS := if luck = 0 then { x with had := toldBy R x most, told := toldBy R x most } else { x with told := x.had }
theorem hear_len0 {E : EarS} {rs : List Row} : (E.hear rs).rows.length ≤ E.rows.length + rs.length := by
  have : ∀ (l : List Row) (E : EarS), (l.foldl EarS.step E).rows.length ≤ E.rows.length + l.length := by
    intro l
    induction l with
    | nil => exact fun E => Nat.le_refl _
    | cons r l ih =>
      intro E
      refine Nat.le_trans (ih _) ?_
      unfold EarS.step
      split
      · show (E.rows ++ [r]).length + l.length ≤ E.rows.length + (l.length + 1); rw [List.length_append]; simp; omega
      · show E.rows.length + l.length ≤ E.rows.length + (l.length + 1); omega
  exact this _ _
section
variable {P : Program} {w : World} {K : PySem.W.Frag} {mg : Str → Option Value} {base : Heap}
def sp_Line_init (K : PySem.W.Frag) : Sp := fun vs H Q E => ∃ l dx p F R pre start v b, ∃ px : Tx 1000 pre, vs = [.ref l, .ref p, .str pre, .int start, v] ∧ H l = some (.ins (He.ga K "Line") dx []) ∧ RoomAt K H p F R ∧ l ∉ F ∧ WOk R ∧ R.ws.length ≤ 1000 ∧ (∀ H', Ext (l :: F) H H' → PairsOf K H' v b) ∧
  (R.G.gone + 1 ≤ start ∧ start ≤ R.G.last + 1 → ∀ H' F' FL, RoomAt K H' p F' (R.watch ⟨pre, px, start - 1, start - 1⟩) → LineAt K H' l FL p (R.met + 1) ⟨start - 1, b, []⟩ → Grow H (l :: F) (F' ++ FL) → Apart F' FL → Ext (l :: F) H H' → Q .non H') ∧
  (¬ (R.G.gone + 1 ≤ start ∧ start ≤ R.G.last + 1) → ∀ H', Ext [l] H H' → E (.ref (He.ga K "NoStart")) none H')
theorem sc_Line_init : FnScope ["self", "room", "prefix", "start", "pairs"] ["self", "room", "prefix", "start", "pairs"] (defScope s_Line_init) := ⟨rfl, rfl, rfl, by decide +kernel, rfl, by decide +kernel, by decide +kernel⟩
theorem ok_Line_init (T : FX K mg) : FnOk P w K mg base (L2N.CX P w) 4 (He.ma K (He.ga K "Line") "__init__") (fdAt K ("Line", some "__init__")) ["self", "room", "prefix", "start", "pairs"] (sp_Line_init K) := by
  refine FunD.ok T.F_Line_init sc_Line_init (fun vs H Q E h => ?_) (fun cdv A outer s H vs Q E hr h => ?_)
  · (repeat (obtain ⟨_, h⟩ := h)); subst_vars; rfl
  · have hu := hu_of hr
    have hu64 := hr.units
    obtain ⟨_, kb_Ear_init_2⟩ := kb_Ear_init_2X T
    refine ⟨_,
      (pss_cons
        (ps_fldC T.cl_Line T.na_Line_room (pv 0) (pv 1))
      (pss_cons
        (ps_fldC T.cl_Line T.na_Line_watcher (pv 0) (pe_methS (pv 1) T.cl_Room T.me_Room_watch (ok_Room_watch T) (hr.mono (j := 3) (by decide)) T.b_Room_watch (fun σ => L2N.passAt tkd σ) (pa_cons (pv 2) (pa_cons (pv 3) pa_nil))))
      (pss_one
        (ps_fldC T.cl_Line T.na_Line_ear (pv 0) (pe_makeG T.mk_Ear (ok_Ear_init T) (hr.mono (j := 2) (by decide)) rfl T.g_Ear kb_Ear_init_2 (fun σ => L2N.passAt tkd σ) (pa_cons (pv 3) (pa_cons (pv 4) pa_nil)) pk_nil))))), ?_⟩
    obtain ⟨l, dx, p, F, R, pre, start, v, b, px, rfl, hl, hR, lF, wok, zw, hv, kQ, kE⟩ := h
    have R0 : Run [l] H H := Run.start (by wtm_at "lv")
    repeat wtm_at "k"
    rename_i H1 r1 g1 n1
    have x01 : Ext [l] H H1 := r1.ext
    have aF : Apart F [l] := fun c hc z => lF (List.mem_singleton.mp z ▸ hc)
    have hR1 := hR.ext x01 aF
    obtain ⟨X, Fp, eF, S⟩ := id hR1
    obtain ⟨em, dxp, hp⟩ := S.r .me
    clear R0
    repeat wtm_at "k"
    refine ⟨p, F, R, pre, start, px, rfl, hR1, wok, zw, fun c H2 F2 hR2 gr2 e2 => ?_, fun c => kE c H1 x01⟩
    have g2 : H2 l = some _ := e2.keep _ _ g1 lF
    have x02 : Ext (l :: F) H H2 := (x01.sub (by simp)).trans (e2.sub fun c h => List.mem_cons_of_mem _ h)
    have lF2 : l ∉ F2 := fun z => (gr2 l z).elim lF fun y => by rw [g1] at y; cases y
    have R2 : Run [l] H2 H2 := Run.start (by wtm_at "lv")
    repeat wtm_at "k"
    rename_i H3 r3 g3 n3
    refine ⟨rfl, rfl, l_make r3 fun e dxe H4 f1 f2 f3 r4 g4 s4 => ?_⟩
    have x24 : Ext [l] H2 H4 := r4.ext
    have x04 : Ext (l :: F) H H4 := x02.trans (x24.sub (by simp))
    refine ⟨e, dxe, start, v, b, rfl, g4, hv H4 x04, fun H5 Fe hE grE eE => ⟨rfl, ?_⟩⟩
    have le : l ≠ e := ne_of_none g3 f3
    have g5 : H5 l = some _ := eE.keep _ _ (s4 _ _ g3) (by simpa using le)
    have lFe : l ∉ Fe := fun z => (grE l z).elim (fun y => le (List.mem_singleton.mp y)) fun y => by rw [s4 _ _ g3] at y; cases y
    have r5 : Run [l] H2 H5 := r4.call eE (fun c h => .inr (by rw [List.mem_singleton.mp h]; exact f1)) fun c h1 h2 => absurd ((List.mem_singleton.mp h1).symm.trans (List.mem_singleton.mp h2)) le
    clear r3 r4 g3 n3 g2 R2
    repeat wtm_at "k"
    rename_i H6 r6 g6 n6
    have x26 : Ext [l] H2 H6 := r6.ext
    have x56 : Ext [l] H5 H6 := ⟨fun c o h n => by rw [n6 c (by simpa using n)]; exact h, fun c xs h => by rw [n6 c (ne_of h g5 fun z => by cases z)]; exact h⟩
    have new2 : ∀ c, c ∈ Fe → H2 c = none := fun c hc => by
      have n : c ≠ l := fun z => lFe (z ▸ hc)
      rcases grE c hc with z | z
      · rw [List.mem_singleton.mp z]; exact f1
      · exact x24.free z (by simpa using n)
    refine kQ c H6 F2 (l :: Fe) (hR2.ext x26 fun c hc z => lF2 (List.mem_singleton.mp z ▸ hc)) ⟨dx, e, Fe, rfl, g6, hE.ext x56 fun c hc z => lFe (List.mem_singleton.mp z ▸ hc), lFe⟩ (fun c hc => ?_) (fun c hc z => ?_) (x02.trans (x26.sub (by simp)))
    · have new1 : ∀ c, c ≠ l → H1 c = none → H c = none := fun c n h => x01.free h (by simpa using n)
      rcases List.mem_append.mp hc with hc | hc
      · have n : c ≠ l := fun z => lF2 (z ▸ hc)
        exact (gr2 c hc).imp (fun z => List.mem_cons_of_mem _ z) (new1 c n)
      · rcases List.mem_cons.mp hc with z | z
        · exact .inl (by rw [z]; simp)
        · by_cases y : c ∈ l :: F
          · exact .inl y
          · exact .inr (x02.free (new2 c z) y)
    · rcases List.mem_cons.mp z with z | z
      · exact lF2 (z ▸ hc)
      · exact hR2.live c hc (new2 c z)
def sp_Line_turn (K : PySem.W.Frag) : Sp := fun vs H Q E => ∃ l p F FL R n Ea most luck, vs = [.ref l, .int most, .int luck] ∧ RoomAt K H p F R ∧ LineAt K H l FL p n Ea ∧ Apart F FL ∧ WOk R ∧ R.G.rows.length ≤ 400000 ∧ Ea.rows.length ≤ 400000 ∧
  (∀ x, aget R.ws n = some x → ∀ H' E', E' = Ea.hear (cutL luck (pulled R x most)) → RoomAt K H' p F (R.setW n (lineX R x most luck)) → LineAt K H' l FL p n E' → Ext (F ++ FL) H H' → Q (.int (E'.rows.length - Ea.rows.length)) H') ∧
  (aget R.ws n = none → E (.ref (He.ga K "NoWatch")) none H)
theorem sc_Line_turn : FnScope ["self", "most", "luck", "changes", "before"] ["self", "most", "luck"] (defScope s_Line_turn) := ⟨rfl, rfl, rfl, by decide +kernel, rfl, by decide +kernel, by decide +kernel⟩
theorem ok_Line_turn (T : FX K mg) : FnOk P w K mg base (L2N.CX P w) 3 (He.ma K (He.ga K "Line") "turn") (fdAt K ("Line", some "turn")) ["self", "most", "luck"] (sp_Line_turn K) := by
  refine FunD.ok T.F_Line_turn sc_Line_turn (fun vs H Q E h => ?_) (fun cdv A outer s H vs Q E hr h => ?_)
  · (repeat (obtain ⟨_, h⟩ := h)); subst_vars; rfl
  · have hu := hu_of hr
    have hu64 := hr.units
    refine ⟨_,
      (pss_cons
        (ps_set (i := 3) sc_Line_turn.nd rfl (Or.inl rfl) (pe_methS (pe_fldC T.cl_Line T.na_Line_room (pv 0)) T.cl_Room T.me_Room_pull (ok_Room_pull T) (hr.mono (j := 2) (by decide)) T.b_Room_pull (fun σ => L2N.passAt tkd σ) (pa_cons (pe_fldC T.cl_Line T.na_Line_watcher (pv 0)) (pa_cons (pv 1) pa_nil))))
      (pss_cons
        (ps_set (i := 4) sc_Line_turn.nd rfl (Or.inl rfl) (pe_callB oLen (by rfl) T.f_len PySem.boot_len (pa_cons (pe_meth0S (pe_fldC T.cl_Line T.na_Line_ear (pv 0)) T.cl_Ear T.me_Ear_heard (ok_Ear_heard T) (hr.mono (j := 1) (by decide)) T.b_Ear_heard (fun σ => L2N.passAt tkd σ)) pa_nil)))
      (pss_cons
        (ps_if (pt_cmpR oIeq (pv 2) pe_int (nomark _))
          (pss_one
            (ps_set (i := 3) sc_Line_turn.nd rfl (Or.inl rfl) (pe_lst pa_nil)))
          pss_nil)
      (pss_cons
        (ps_if (pt_cmpR oIeq (pv 2) pe_int (nomark _))
          (pss_one
            (ps_set (i := 3) sc_Line_turn.nd rfl (Or.inl rfl) (pe_slice sl_list (pv 3) po_none (po_some (pe_op oIdiv (pe_callB oLen (by rfl) T.f_len PySem.boot_len (pa_cons (pv 3) pa_nil)) pe_int)))))
          pss_nil)
      (pss_cons
        (ps_expr (pe_methS (pe_fldC T.cl_Line T.na_Line_ear (pv 0)) T.cl_Ear T.me_Ear_hear (ok_Ear_hear T) (hr.mono (j := 1) (by decide)) T.b_Ear_hear (fun σ => L2N.passAt tkd σ) (pa_cons (pv 3) pa_nil)))
      (pss_cons
        (ps_if (pt_cmpR oIeq (pv 2) pe_int (nomark _))
          (pss_one
            (ps_expr (pe_methS (pe_fldC T.cl_Line T.na_Line_room (pv 0)) T.cl_Room T.me_Room_confirm (ok_Room_confirm T) (hr.mono (j := 2) (by decide)) T.b_Room_confirm (fun σ => L2N.passAt tkd σ) (pa_cons (pe_fldC T.cl_Line T.na_Line_watcher (pv 0)) pa_nil))))
          (pss_one
            (ps_expr (pe_methS (pe_fldC T.cl_Line T.na_Line_room (pv 0)) T.cl_Room T.me_Room_broken (ok_Room_broken T) (hr.mono (j := 2) (by decide)) T.b_Room_broken (fun σ => L2N.passAt tkd σ) (pa_cons (pe_fldC T.cl_Line T.na_Line_watcher (pv 0)) pa_nil)))))
      (pss_one
        (ps_ret (pe_op oIsub (pe_callB oLen (by rfl) T.f_len PySem.boot_len (pa_cons (pe_meth0S (pe_fldC T.cl_Line T.na_Line_ear (pv 0)) T.cl_Ear T.me_Ear_heard (ok_Ear_heard T) (hr.mono (j := 1) (by decide)) T.b_Ear_heard (fun σ => L2N.passAt tkd σ)) pa_nil)) (pv 4)))))))))), ?_⟩
    obtain ⟨l, p, F, FL, R, n, Ea, most, luck, rfl, hR, hL, ap, wok, zg, ze, kQ, kE⟩ := h
    obtain ⟨dx, e, Fe, rfl, h1, h2, lFe⟩ := id hL
    obtain ⟨X, Fp, eF, S⟩ := id hR
    obtain ⟨em, dxp, hp⟩ := S.r .me
    repeat wtm_at "k"
    refine ⟨p, F, R, n, most, rfl, hR, wok, by omega, fun x ex c H1 ys nc hR1 e1 hc py => ?_, kE⟩
    have kQ := kQ x ex
    have hL1 := hL.ext e1 ap.symm
    obtain ⟨dx1, ea1, Fe1, eFe, g1, g2, lFe1⟩ := id hL1
    obtain ⟨pb, pr, dxe, bs, zs, eF1, q1, q2, q3, q4, q5, q6⟩ := id g2
    have hx1 : aget (R.setW n { x with told := toldBy R x most }).ws n = some { x with told := toldBy R x most } := ws_setW ex
    have wok1 : WOk (R.setW n { x with told := toldBy R x most }) := wok.setW
    have zp : (pulled R x most).length ≤ R.G.rows.length := by
      unfold pulled LogS.wanted LogS.wantedAll
      exact Nat.le_trans (List.length_take_le' _ _) (List.length_filter_le _ _)
    have cFL : c ∉ l :: Fe := fun z => hL.live c z nc
    have cFe : c ∉ Fe1 := fun z => cFL (by rw [eFe]; exact List.mem_cons_of_mem _ z)
    repeat wtm_at "k"
    refine ⟨ea1, Fe1, Ea, rfl, g2, fun h0 H2 ys2 f1 e2 hh py2 => ?_⟩
    have le2 := Paired.length py2
    have hc2 := e2.keep _ _ hc (by simp)
    have pc2 := keepT e2.tups py
    have R2 : Run [] H2 H2 := Run.start Live.nil
    repeat wtm_at "k"
    rw [le2]
    refine k_fork (fun σ' H' => ∃ c' ys', σ' = [some (.ref l), some (.int most), some (.int luck), some (.ref c'), some (.int Ea.rows.length)] ∧ Ext [] H2 H' ∧ H' c' = some (.lst ys') ∧ Paired (IsR H') ys' (if luck = 1 then [] else pulled R x most) ∧ c' ∉ Fe1) (fun nx' ky => ?_) ?_
    · refine k_ifd (fun d1 => ?_) fun d1 => ?_
      · repeat wtm_at "k"
        rename_i c' H3 u1 u2 u3 r3 g3 s3
        refine ky _ _ ⟨c', [], rfl, r3.ext, g3, by rw [if_pos d1]; exact .nil, fun z => ?_⟩
        exact g2.live c' z (e2.free u1 (by simp))
      · exact k_next (ky _ _ ⟨c, ys, rfl, Ext.refl _ _, hc2, by rw [if_neg d1]; exact pc2, cFe⟩)
    rintro _ H3 ⟨c', ys', rfl, e3, hc3, py3, cFe3⟩
    have R3 : Run [] H3 H3 := Run.start Live.nil
    clear R2
    repeat wtm_at "k"
    refine k_fork (fun σ' H' => ∃ c' ys', σ' = [some (.ref l), some (.int most), some (.int luck), some (.ref c'), some (.int Ea.rows.length)] ∧ Ext [] H3 H' ∧ H' c' = some (.lst ys') ∧ Paired (IsR H') ys' (cutL luck (pulled R x most)) ∧ c' ∉ Fe1) (fun nx' ky => ?_) ?_
    · refine k_ifd (fun d3 => ?_) fun d3 => ?_
      · have ly3 := Paired.length py3
        rw [if_neg (by omega)] at py3 ly3
        have e22 : (ys'.length : Int) / 2 = ((ys'.length / 2 : Nat) : Int) := by omega
        repeat wtm_at "k"
        rename_i c4 H4 u1 u2 u3 r4 g4 s4
        rw [e22, cutV_to] at g4
        refine ky _ _ ⟨c4, _, rfl, r4.ext, g4, ?_, fun z => ?_⟩
        · unfold cutL
          rw [if_neg (by omega), if_pos d3, ← ly3]
          exact takeT _ (keepT r4.ext.tups py3)
        · exact g2.live c4 z (e2.free (e3.free u1 (by simp)) (by simp))
      · refine k_next (ky _ _ ⟨c', ys', rfl, Ext.refl _ _, hc3, ?_, cFe3⟩)
        unfold cutL
        rw [if_neg d3]
        exact py3
    rintro _ H4 ⟨c4, ys4, rfl, e4, hc4, py4, cFe4⟩
    clear hc3 py3 R3 cFe3
    have zc : (cutL luck (pulled R x most)).length ≤ (pulled R x most).length := by
      unfold cutL
      split
      · exact Nat.zero_le _
      · split
        · exact List.length_take_le' _ _
        · exact Nat.le_refl _
    have x14 : Ext [] H1 H4 := (e2.trans e3).trans e4
    have hR4 := hR1.ext x14 (zero _)
    have hE4 := g2.ext x14 (zero _)
    have g14 := x14.keep _ _ g1 (by simp)
    have q14 := x14.keep _ _ q1 (by simp)
    repeat wtm_at "k"
    refine ⟨ea1, Fe1, Ea, c4, ys4, _, rfl, hE4, SqL.of hc4, cFe4, py4, by omega, fun H5 hE5 e5 => ?_⟩
    have apF : Apart F Fe1 := fun c hc z => ap c hc (by rw [eFe]; exact List.mem_cons_of_mem _ z)
    have lF : l ∉ F := fun z => ap l z (by simp)
    have hR5 := hR4.ext e5 apF
    have g15 := e5.keep _ _ g14 lFe1
    obtain ⟨X5, Fp5, eF5, S5⟩ := id hR5
    obtain ⟨em5, dx5, hp5⟩ := S5.r .me
    repeat wtm_at "k"
    refine k_fork (fun σ' H' => σ' = [some (.ref l), some (.int most), some (.int luck), some (.ref c4), some (.int Ea.rows.length)] ∧ RoomAt K H' p F (R.setW n (lineX R x most luck)) ∧ Ext F H5 H') (fun nx' ky => ?_) ?_
    · refine k_ifd (fun d0 => ?_) fun d0 => ?_
      · repeat wtm_at "k"
        refine ⟨p, F, _, n, rfl, hR5, wok1, fun y ey H6 hR6 e6 => ?_, fun z => by rw [hx1] at z; cases z⟩
        rw [hx1] at ey
        obtain rfl := Option.some.inj ey
        rw [setW_setW] at hR6
        repeat wtm_at "k"
        refine ky _ _ ⟨rfl, ?_, e6⟩
        unfold lineX
        rw [if_pos d0]
        exact hR6
      · repeat wtm_at "k"
        refine ⟨p, F, _, n, rfl, hR5, wok1, fun y ey H6 hR6 e6 => ?_, fun z => by rw [hx1] at z; cases z⟩
        rw [hx1] at ey
        obtain rfl := Option.some.inj ey
        rw [setW_setW] at hR6
        repeat wtm_at "k"
        refine ky _ _ ⟨rfl, ?_, e6⟩
        unfold lineX
        rw [if_neg d0]
        exact hR6
    rintro _ H6 ⟨rfl, hR6, e6⟩
    have hE6 := hE5.ext e6 apF.symm
    have g16 := e6.keep _ _ g15 lF
    obtain ⟨pb6, pr6, dxe6, bs6, zs6, eF6, q61, _⟩ := id hE6
    repeat wtm_at "k"
    refine ⟨ea1, Fe1, _, rfl, hE6, fun h7 H7 ys7 f7 e7 hh7 py7 => ?_⟩
    have le7 := Paired.length py7
    repeat wtm_at "k"
    rw [le7]
    have x05 : Ext (F ++ l :: Fe) H H5 := ((e1.sub fun c hc => List.mem_append.mpr (.inl hc)).trans (x14.sub (by simp))).trans (e5.sub fun c hc => List.mem_append.mpr (.inr (by rw [eFe]; exact List.mem_cons_of_mem _ hc)))
    exact kQ H7 _ rfl (hR6.ext e7 (zero _)) ⟨dx1, ea1, Fe1, eFe, e7.keep _ _ g16 (by simp), hE6.ext e7 (zero _), lFe1⟩ ((x05.trans (e6.sub fun c hc => List.mem_append.mpr (.inl hc))).add e7)
end
end LW

set_option maxHeartbeats 4000000
namespace LW
open PySem PySem.Spec PyProof.Rows L2
local macro_rules | `(tactic| wtm_at "vk") => `(tactic| first
  | assumption
  | with_reducible exact rv_mf_given
  | with_reducible exact rv_mf_free
  | exact valV_sv (by assumption)
  | exact valV_iv (by assumption)
  | fail)
local macro_rules | `(tactic| wtm_at "pk") => `(tactic| first
  | with_reducible exact putK_iv
  | with_reducible exact dropK_ik
  | with_reducible exact dropK_sk
  | with_reducible exact rp_mf_given
  | with_reducible exact rp_mf_free
  | exact putK_sv
  | assumption
  | fail)
local macro_rules | `(tactic| wtm_at "rm") => `(tactic| first
  | with_reducible exact rm_mf
  | exact rfl
  | fail)
local macro_rules | `(tactic| wtm_at "rl") => `(tactic| first
  | with_reducible exact rl_mf
  | with_reducible assumption
  | fail)
local macro_rules | `(tactic| wtm_at "lk") => `(tactic| with_reducible first
  | exact lk_Ear_behind
  | exact lk_Ear_begun
  | exact lk_Ear_rows
  | exact lk_Line_room
  | exact lk_Line_watcher
  | exact lk_Line_ear
  | exact lk_Leases_given
  | exact lk_Leases_spans
  | exact lk_Leases_ends
  | exact lk_Log_rows
  | exact lk_Log_gone
  | exact lk_Watcher_prefix
  | exact lk_Watcher_had
  | exact lk_Watcher_told
  | exact lk_Room_now
  | exact lk_Room_leases
  | exact lk_Room_log
  | exact lk_Room_kept
  | exact lk_Room_watchers
  | exact lk_Room_met
  | fail)
local macro_rules | `(tactic| wtm_at "lm") => `(tactic| with_reducible first
  | exact lm_Ear_hear
  | exact lm_Ear_heard
  | exact lm_Ear_state
  | exact lm_Line_turn
  | exact lm_Leases_grant
  | exact lm_Leases_need
  | exact lm_Leases_renew
  | exact lm_Leases_drop
  | exact lm_Leases_due
  | exact lm_Log_note
  | exact lm_Log_last
  | exact lm_Log_first
  | exact lm_Log_wanted
  | exact lm_Log_forget
  | exact lm_Room_grant
  | exact lm_Room_renew
  | exact lm_Room_drop
  | exact lm_Room_wait
  | exact lm_Room_free
  | exact lm_Room_put
  | exact lm_Room_cut
  | exact lm_Room_value
  | exact lm_Room_holder
  | exact lm_Room_pairs
  | exact lm_Room_last
  | exact lm_Room_first
  | exact lm_Room_watch
  | exact lm_Room_need
  | exact lm_Room_pull
  | exact lm_Room_confirm
  | exact lm_Room_broken
  | exact lm_Room_leave
  | exact lm_Room_trim
  | fail)
local macro_rules | `(tactic| wtm_at "pt") => `(tactic| with_reducible first
  | exact pt_Ear_behind
  | exact pt_Ear_begun
  | exact pt_Ear_rows
  | exact pi_Ear_0
  | exact pi_Ear_1
  | exact pi_Ear_2
  | exact pt_Line_room
  | exact pt_Line_watcher
  | exact pt_Line_ear
  | exact pi_Line_0
  | exact pi_Line_1
  | exact pi_Line_2
  | exact pt_Leases_given
  | exact pt_Leases_spans
  | exact pt_Leases_ends
  | exact pi_Leases_0
  | exact pi_Leases_1
  | exact pi_Leases_2
  | exact pt_Log_rows
  | exact pt_Log_gone
  | exact pi_Log_0
  | exact pi_Log_1
  | exact pt_Watcher_prefix
  | exact pt_Watcher_had
  | exact pt_Watcher_told
  | exact pi_Watcher_0
  | exact pi_Watcher_1
  | exact pi_Watcher_2
  | exact pt_Room_now
  | exact pt_Room_leases
  | exact pt_Room_log
  | exact pt_Room_kept
  | exact pt_Room_watchers
  | exact pt_Room_met
  | exact pi_Room_0
  | exact pi_Room_1
  | exact pi_Room_2
  | exact pi_Room_3
  | exact pi_Room_4
  | exact pi_Room_5
  | fail)
local macro_rules | `(tactic| wtm_at "lz") => `(tactic| with_reducible first
  | exact lz_Ear
  | exact lz_Line
  | exact lz_Leases
  | exact lz_Log
  | exact lz_Watcher
  | exact lz_Room
  | (simp only [List.length_cons, List.length_nil]; decide)
  | exact (by decide)
  | fail)
local macro_rules | `(tactic| wtm_at "hf") => `(tactic| first
  | assumption
  | (refine' hf_s ?hs ?hx; (case hs => assumption); (case hx => wtm_at "hf"))
  | (refine' hf_n ?hs ?hx ?ne; (case hs => assumption); (case hx => wtm_at "hf"); (case ne => wtm_at "ne"))
  | (refine' hf_e ?hs ?hx ?hy; (case hs => assumption); (case hx => wtm_at "hf"); (case hy => wtm_at "nin"))
  | fail)
local macro_rules | `(tactic| wtm_at "ne") => `(tactic| first
  | assumption
  | (apply Ne.symm; assumption)
  | (refine' ne_of_none ?hx ?hy; (case hy => assumption); (case hx => wtm_at "hf"))
  | (refine' (ne_of_none ?hx ?hy).symm; (case hy => assumption); (case hx => wtm_at "hf"))
  | (refine' ne_of ?hx ?hy ?hz; (case hx => assumption); (case hy => assumption); (case hz => intro z; cases z))
  | fail)
local macro_rules | `(tactic| wtm_at "nin") => `(tactic| first
  | assumption
  | exact notin_nil
  | (refine' notin_cons ?hx ?hy; (case hx => wtm_at "ne"); (case hy => wtm_at "nin"))
  | fail)
local macro_rules | `(tactic| wtm_at "mem") => `(tactic| first
  | assumption
  | exact List.mem_cons_self
  | (refine' List.mem_cons_of_mem _ ?hx; (case hx => wtm_at "mem"))
  | fail)
local macro_rules | `(tactic| wtm_at "wr") => `(tactic| first
  | exact Or.inr (by assumption)
  | exact Or.inl (by wtm_at "mem")
  | fail)
local macro_rules | `(tactic| wtm_at "lv") => `(tactic| first
  | assumption
  | exact Live.nil
  | (refine' Live.cons ?hx ?hy; (case hx => wtm_at "hf"); (case hy => wtm_at "lv"))
  | fail)
local macro_rules | `(tactic| wtm_at "run") => `(tactic| first
  | assumption
  | (refine' Run.same ?hx ?hy; (case hy => assumption); (case hx => wtm_at "run"))
  | fail)
local macro_rules | `(tactic| wtm_at "sq") => `(tactic| first
  | assumption
  | (refine' Run.seq ?hx ?hy; (case hx => assumption); (case hy => assumption))
  | (refine' SqL.of ?hx; (case hx => wtm_at "hf"))
  | (refine' Same.seq ?hx ?hy; (case hx => assumption); (case hy => wtm_at "sq"))
  | (refine' Ext.seqL ?hx ?hz ?hy; (case hx => assumption); (case hy => wtm_at "sq"); (case hz => wtm_at "nin"))
  | fail)
local macro_rules | `(tactic| wtm_at "st") => `(tactic| first
  | assumption
  | (refine' SqT.of ?hx; (case hx => wtm_at "hf"))
  | fail)
local macro_rules | `(tactic| wtm_at "ix") => `(tactic| first
  | assumption
  | exact rfl
  | fail)
local macro_rules | `(tactic| wtm_at "sz") => `(tactic| first
  | wtm_at "rl"
  | with_reducible assumption
  | (rw [ik_len]; wtm_at "sz")
  | (rw [sk_len]; wtm_at "sz")
  | exact smallM (by assumption)
  | exact smallM (by omega)
  | exact smallM (by simp only [List.length_cons, List.length_nil, List.length_append, List.length_map]; omega)
  | fail)
local macro_rules | `(tactic| wtm_at "tx") => `(tactic| first
  | assumption
  | ((with_reducible refine' Tx.app ?hx ?hy); (case hx => wtm_at "tx"); (case hy => wtm_at "tx"))
  | ((with_reducible refine' Tx.cut ?hx); (case hx => wtm_at "tx"))
  | with_reducible exact Tx.nil
  | fail)
local macro_rules | `(tactic| wtm_at "k") => `(tactic| first
  | with_reducible refine k_seq ?_
  | with_reducible refine k_next ?_
  | with_reducible refine k_asg ?_
  | with_reducible refine k_ret ?_
  | with_reducible refine k_retN ?_
  | with_reducible refine k_asgS ?_
  | ((with_reducible refine' l_setL ?hr ?hx ?he ?h2 ?hw ?_); (case hr => wtm_at "run"); (case hx => wtm_at "hf"); (case he => exact rfl); (case h2 => exact rfl); (case hw => wtm_at "wr"); intro _ _ _ _)
  | with_reducible refine k_minD ?_
  | with_reducible refine k_drop ?_
  | with_reducible refine k_ifS ?_
  | ((with_reducible refine' k_var ?hx ?_); (case hx => exact rfl))
  | with_reducible refine k_c ?_
  | with_reducible refine k_negc ?_
  | with_reducible refine k_neg ?_
  | with_reducible refine l_neg ?_
  | with_reducible refine k_op ?_
  | with_reducible refine k_cb ?_
  | with_reducible refine k_nil ?_
  | with_reducible refine k_cons ?_
  | with_reducible refine k_test ?_
  | with_reducible refine k_B ?_
  | with_reducible refine k_not ?_
  | with_reducible refine k_and ?_
  | with_reducible refine k_or ?_
  | with_reducible refine k_notV ?_
  | with_reducible refine k_andV ?_
  | with_reducible refine k_orV ?_
  | with_reducible refine k_bl ?_
  | with_reducible refine k_add ?_
  | with_reducible refine k_sub ?_
  | ((with_reducible refine' k_mod ?hx ?_); (case hx => first | decide | omega))
  | ((with_reducible refine' k_div ?hx ?_); (case hx => first | exact ⟨by decide, by decide⟩ | exact ⟨by omega, by omega⟩))
  | ((with_reducible refine' k_mul ?hx ?_); (case hx => first | exact Or.inl ⟨by decide, by decide⟩ | exact Or.inr ⟨by decide, by decide⟩ | exact Or.inl ⟨by omega, by omega⟩))
  | with_reducible refine k_chain ?_
  | with_reducible refine k_p6 ?_
  | with_reducible refine k_p9 ?_
  | with_reducible refine k_p12 ?_
  | with_reducible refine k_p13 ?_
  | with_reducible refine k_p18 ?_
  | with_reducible refine k_p30 ?_
  | with_reducible refine k_lt ?_
  | with_reducible refine k_le ?_
  | with_reducible refine k_gt ?_
  | with_reducible refine k_ge ?_
  | with_reducible refine k_eq ?_
  | with_reducible refine k_ne ?_
  | with_reducible refine k_seqS ?_
  | with_reducible refine k_neS ?_
  | with_reducible refine k_neB ?_
  | with_reducible refine k_isN ?_
  | with_reducible refine k_noN ?_
  | with_reducible refine k_fld ?_
  | ((with_reducible refine' l_fld ?hx ?hy ?_); (case hx => wtm_at "hf"); (case hy => wtm_at "lk"))
  | with_reducible refine k_fldS ?_
  | ((with_reducible refine' l_fldS ?hr ?hx ?hz ?hy ?hw ?_); (case hr => wtm_at "run"); (case hx => wtm_at "hf"); (case hy => wtm_at "pt"); (case hz => wtm_at "lz"); (case hw => wtm_at "wr"); intro _ _ _ _)
  | ((with_reducible refine' l_new ?hr ?_); (case hr => wtm_at "run"); intro _ _ _ _ _ _ _ _)
  | with_reducible refine k_append ?_
  | ((with_reducible refine' l_tyL ?hx ?_); (case hx => wtm_at "hf"))
  | ((with_reducible refine' l_ins ?hx ?hy ?_); (case hx => wtm_at "hf"); (case hy => wtm_at "lm"))
  | with_reducible refine k_methS ?_
  | with_reducible refine k_methG ?_
  | with_reducible refine k_makeG ?_
  | with_reducible refine k_meth0 ?_
  | with_reducible refine k_callS ?_
  | with_reducible refine k_callE ?_
  | with_reducible refine k_dget ?_
  | with_reducible refine k_din ?_
  | with_reducible refine k_dnotin ?_
  | with_reducible refine k_dput ?_
  | with_reducible refine k_dpop ?_
  | with_reducible refine k_dget2 ?_
  | with_reducible refine k_tup ?_
  | with_reducible refine k_lst ?_
  | with_reducible refine k_dnew ?_
  | ((with_reducible refine' l_tup ?hx ?_); (case hx => simp only [List.length_cons, List.length_nil]; decide))
  | ((with_reducible refine' l_lst ?hx ?_); (case hx => simp only [List.length_cons, List.length_nil]; decide))
  | ((with_reducible refine' l_isD ?hx ?_); (case hx => wtm_at "hf"))
  | ((with_reducible refine' l_dinI ?hx ?_); (case hx => wtm_at "hf"))
  | ((with_reducible refine' l_dinS ?hx ?_); (case hx => wtm_at "hf"))
  | ((with_reducible refine' l_dnotinI ?hx ?_); (case hx => wtm_at "hf"))
  | ((with_reducible refine' l_dnotinS ?hx ?_); (case hx => wtm_at "hf"))
  | ((with_reducible refine' l_dputI ?hr ?hx ?hz ?hy ?hw ?_); (case hr => wtm_at "run"); (case hx => wtm_at "hf"); (case hy => wtm_at "pk"); (case hz => wtm_at "sz"); (case hw => wtm_at "wr"); intro _ _ _ _)
  | ((with_reducible refine' l_dputS ?hr ?hx ?hz ?hy ?hw ?_); (case hr => wtm_at "run"); (case hx => wtm_at "hf"); (case hy => wtm_at "pk"); (case hz => wtm_at "sz"); (case hw => wtm_at "wr"); intro _ _ _ _)
  | ((with_reducible refine' l_dpopI ?hr ?hx ?hz ?hy ?hw ?_); (case hr => wtm_at "run"); (case hx => wtm_at "hf"); (case hy => wtm_at "pk"); (case hz => wtm_at "vk"); (case hw => wtm_at "wr"); intro _ _ _ _)
  | ((with_reducible refine' l_dpopS ?hr ?hx ?hz ?hy ?hw ?_); (case hr => wtm_at "run"); (case hx => wtm_at "hf"); (case hy => wtm_at "pk"); (case hz => wtm_at "vk"); (case hw => wtm_at "wr"); intro _ _ _ _)
  | ((with_reducible refine' l_dgetI ?hx ?hz ?_); (case hx => wtm_at "hf"); (case hz => wtm_at "vk"))
  | ((with_reducible refine' l_dgetS ?hx ?hz ?_); (case hx => wtm_at "hf"); (case hz => wtm_at "vk"))
  | ((with_reducible refine' l_dgetIF ?hx ?hz ?_); (case hx => wtm_at "hf"); (case hz => wtm_at "vk"))
  | ((with_reducible refine' l_dgetSF ?hx ?hz ?_); (case hx => wtm_at "hf"); (case hz => wtm_at "vk"))
  | ((with_reducible refine' l_dgetZ ?hx ?hz ?_); (case hx => wtm_at "hf"); (case hz => wtm_at "vk"))
  | ((with_reducible refine' k_disp ?hr ?_); (case hr => wtm_at "run"); intro _ _ _ _ _ _ _ _)
  | with_reducible refine k_pcons ?_
  | with_reducible refine k_pnil ?_
  | ((with_reducible refine' l_disp ?hr ?hx ?hu ?hv ?hy ?hw ?_); (case hr => wtm_at "run"); (case hx => wtm_at "hf"); (case hu => exact rfl); (case hv => simp only [List.length_map, List.length_cons, List.length_nil]; decide); (case hy => wtm_at "rm"); (case hw => wtm_at "wr"); intro _ _ _ _)
  | ((with_reducible refine' l_append ?hr ?hx ?hz ?hw ?_); (case hr => wtm_at "run"); (case hx => wtm_at "hf"); (case hz => wtm_at "sz"); (case hw => wtm_at "wr"); intro _ _ _ _)
  | ((with_reducible refine' l_isEt ?hx ?_); (case hx => first | exact isD (ExcK.kit (by assumption) _ (by wtm_at "mem") _ (by wtm_at "mem")) | exact isC (ExcK.kit (by assumption) _ (by wtm_at "mem") _ (by wtm_at "mem")) (by decide)))
  | ((with_reducible refine' l_isEV ?hx ?_); (case hx => exact ExcK.kitV (by assumption) _ (by wtm_at "mem")))
  | ((with_reducible refine' l_isiI ?hx ?_); (case hx => first | rfl | assumption))
  | ((with_reducible refine' l_isiB ?hx ?_); (case hx => first | rfl | assumption))
  | with_reducible refine l_isiSS ?_
  | ((with_reducible refine' l_isiS ?hx ?_); (case hx => first | rfl | assumption))
  | ((with_reducible refine' l_isiL ?hx ?_); (case hx => wtm_at "hf"))
  | ((with_reducible refine' l_isiO ?hx ?hy ?hz ?_); (case hx => wtm_at "hf"); (case hy => assumption); (case hz => assumption))
  | ((with_reducible refine' l_isiT ?hx ?_); (case hx => wtm_at "hf"))
  | ((with_reducible refine' l_lenL ?hx ?_); (case hx => wtm_at "sq"))
  | ((with_reducible refine' l_lenT ?hx ?_); (case hx => wtm_at "st"))
  | ((with_reducible refine' l_lenDK ?hx ?_); (case hx => wtm_at "hf"))
  | ((with_reducible refine' l_ixL ?hx ?hy ?_); (case hx => wtm_at "sq"); (case hy => wtm_at "ix"))
  | ((with_reducible refine' l_ixT ?hx ?hy ?_); (case hx => wtm_at "st"); (case hy => wtm_at "ix"))
  | with_reducible refine k_m1 ?_
  | with_reducible refine l_strX ?_
  | with_reducible refine l_sw ?_
  | ((with_reducible refine' x_addS ?hx ?hy ?hz ?_); (case hx => wtm_at "tx"); (case hy => wtm_at "tx"); (case hz => decide))
  | ((with_reducible refine' x_slS ?hx ?hz ?_); (case hx => wtm_at "tx"); (case hz => decide))
  | ((with_reducible refine' x_lenX ?hx ?hz ?_); (case hx => wtm_at "tx"); (case hz => decide))
  | with_reducible refine l_max ?_
  | with_reducible refine l_min ?_
  | with_reducible refine l_abs ?_
  | with_reducible refine k_sl ?_
  | with_reducible refine k_part ?_
  | with_reducible refine l_part ?_
  | with_reducible refine k_nopart ?_
  | with_reducible refine k_yes ?_
  | ((with_reducible refine' l_slL ?hr ?hx ?_); (case hr => wtm_at "run"); (case hx => wtm_at "sq"); intro _ _ _ _ _ _ _ _)
  | with_reducible refine k_lcL ?_
  | with_reducible refine k_lcR ?_
  | with_reducible refine k_for ?_
  | with_reducible refine k_zip ?_
  | with_reducible refine k_rng1 ?_
  | with_reducible refine k_rng2 ?_
  | with_reducible refine k_rng3 ?_
  | with_reducible refine k_makeS ?_
  | ((with_reducible refine' l_make ?hr ?_); (case hr => wtm_at "run"); intro _ _ _ _ _ _ _ _ _)
  | with_reducible refine k_ntt ?_
  | with_reducible refine k_ntf ?_
  | with_reducible refine k_clear ?_
  | ((with_reducible refine' l_clear ?hr ?hx ?hw ?_); (case hr => wtm_at "run"); (case hx => wtm_at "hf"); (case hw => wtm_at "wr"); intro _ _ _ _)
  | with_reducible refine k_ift ?_
  | with_reducible refine k_iff ?_
  | with_reducible refine g_name ?_
  | with_reducible refine k_revL ?_
  | ((with_reducible refine' l_tupL ?hx ?_); (case hx => wtm_at "sq"))
  | with_reducible refine l_intB ?_
  | ((with_reducible refine' l_rev ?hx ?_); (case hx => wtm_at "sq"))
  | ((with_reducible refine' l_gT2 ?hn ?hx ?_); (case hn => exact rfl); (case hx => wtm_at "st"))
  | ((with_reducible refine' l_listL ?hx ?_); (case hx => wtm_at "sq"))
  | ((with_reducible refine' l_listT ?hx ?_); (case hx => wtm_at "st"))
  | fail)
local macro_rules | `(tactic| wtm_at "k") => `(tactic| first
  | with_reducible refine k_wholeI ?_
  | ((with_reducible refine' k_whole ?hx ?_); (case hx => first | rfl | assumption))
  | ((with_reducible refine' k_cell ?hx ?hy ?_); (case hx => first | decide | omega | assumption); (case hy => wtm_at "sq"))
  | fail)
inductive Deed where
  | grant (t : Int)
  | renew (h : Int)
  | drop (h : Int)
  | wait (t : Int)
  | put (k v : Str) (h : Int)
  | cut (k : Str) (h : Int)
def fD : Deed → List V
  | .grant t => [.str "grant", .int t]
  | .renew h => [.str "renew", .int h]
  | .drop h => [.str "drop", .int h]
  | .wait t => [.str "wait", .int t]
  | .put k v h => [.str "put", .str k, .str v, .int h]
  | .cut k h => [.str "cut", .str k, .int h]
def DTx : Deed → Prop
  | .put k v _ => Tx 1000 k ∧ Tx 1000 v
  | .cut k _ => Tx 1000 k
  | _ => True
open Classical in
/-- by which word a deed is refused -/
noncomputable def RoomS.ref (R : RoomS) : Deed → Option Str
  | .grant t => if 1 ≤ t ∧ t ≤ 1000000 then none else some "BadTicks"
  | .wait t => if 0 ≤ t ∧ t ≤ 1000000 then none else some "BadTicks"
  | .renew h => if aget R.L.ends h = none then some "NoLease" else none
  | .drop h => if aget R.L.ends h = none then some "NoLease" else none
  | .put k v h => if noLease R h then some "NoLease" else if isHeld R k h then some "Held" else none
  | .cut k h => if noLease R h then some "NoLease" else if aget R.kept k = none then some "NoKey" else if isHeld R k h then some "Held" else none
noncomputable def RoomS.nxt (R : RoomS) : Deed → V × RoomS
  | .grant t => (.int (R.L.given + 1), { R with L := R.L.grant R.now t })
  | .wait t => (.non, R.wait t)
  | .renew h => (.non, { R with L := R.L.renew h (R.now + (aget R.L.spans h).getD 0) })
  | .drop h => (.non, R.drop h)
  | .put k v h => (.int (R.G.last + 1), R.put k v h)
  | .cut k h => (.int (R.G.last + 1), R.cutAt R.now k)
def RSz (R : RoomS) : Prop := R.kept.length ≤ 1000 ∧ R.L.ends.length ≤ 1000 ∧ R.L.spans.length ≤ 1000 ∧ R.G.rows.length + (R.L.ends.length + 1) * R.kept.length ≤ 900000
section
variable {P : Program} {w : World} {K : PySem.W.Frag} {mg : Str → Option Value} {base : Heap}
def sp_l_call (K : PySem.W.Frag) : Sp := fun vs H Q E => ∃ p F R v d, vs = [.ref p, v] ∧ RoomAt K H p F R ∧ IsT fD H v d ∧ DTx d ∧ ROk R ∧ RSz R ∧
  (∀ n, R.ref d = some n → E (.ref (He.ga K n)) none H) ∧ (R.ref d = none → ∀ H', RoomAt K H' p F (R.nxt d).2 → Ext F H H' → Q (R.nxt d).1 H')
theorem sc_l_call : FnScope ["_law_room", "_law_deed_here"] ["_law_room", "_law_deed_here"] (defScope s_l_call) := ⟨rfl, rfl, rfl, by decide +kernel, rfl, by decide +kernel, by decide +kernel⟩
theorem ok_l_call (T : FX K mg) : FnOk P w K mg base (L2N.CX P w) 5 (He.ga K "_law_call") (fdAt K ("_law_call", none)) ["_law_room", "_law_deed_here"] (sp_l_call K) := by
  refine FunD.ok T.F_l_call sc_l_call (fun vs H Q E h => ?_) (fun cdv A outer s H vs Q E hr h => ?_)
  · (repeat (obtain ⟨_, h⟩ := h)); subst_vars; rfl
  · have hu := hu_of hr
    have hu64 := hr.units
    obtain ⟨_, kb_Room_cut_1_lease⟩ := kb_Room_cut_1_leaseX T
    obtain ⟨_, kb_Room_cut_2⟩ := kb_Room_cut_2X T
    obtain ⟨_, kb_Room_put_2⟩ := kb_Room_put_2X T
    obtain ⟨_, kb_Room_put_2_lease⟩ := kb_Room_put_2_leaseX T
    obtain ⟨_, kb_Room_put_3⟩ := kb_Room_put_3X T
    refine ⟨_,
      (pss_cons
        (ps_if (pt_cmpR oSeq (pe_ix ix_tup (pv 1) pe_int (fun _ _ => rfl)) pe_str (nomark _))
          (pss_one
            (ps_ret (pe_methS (pv 0) T.cl_Room T.me_Room_grant (ok_Room_grant T) (hr.mono (j := 2) (by decide)) T.b_Room_grant (fun σ => L2N.passAt tkd σ) (pa_cons (pe_ix ix_tup (pv 1) pe_int (fun _ _ => rfl)) pa_nil))))
          pss_nil)
      (pss_cons
        (ps_if (pt_cmpR oSeq (pe_ix ix_tup (pv 1) pe_int (fun _ _ => rfl)) pe_str (nomark _))
          (pss_one
            (ps_ret (pe_methS (pv 0) T.cl_Room T.me_Room_wait (ok_Room_wait T) (hr.mono (j := 4) (by decide)) T.b_Room_wait (fun σ => L2N.passAt tkd σ) (pa_cons (pe_ix ix_tup (pv 1) pe_int (fun _ _ => rfl)) pa_nil))))
          pss_nil)
      (pss_cons
        (ps_if (pt_cmpR oSeq (pe_ix ix_tup (pv 1) pe_int (fun _ _ => rfl)) pe_str (nomark _))
          (pss_one
            (ps_ret (pe_methS (pv 0) T.cl_Room T.me_Room_renew (ok_Room_renew T) (hr.mono (j := 3) (by decide)) T.b_Room_renew (fun σ => L2N.passAt tkd σ) (pa_cons (pe_ix ix_tup (pv 1) pe_int (fun _ _ => rfl)) pa_nil))))
          pss_nil)
      (pss_cons
        (ps_if (pt_cmpR oSeq (pe_ix ix_tup (pv 1) pe_int (fun _ _ => rfl)) pe_str (nomark _))
          (pss_one
            (ps_ret (pe_methS (pv 0) T.cl_Room T.me_Room_drop (ok_Room_drop T) (hr.mono (j := 4) (by decide)) T.b_Room_drop (fun σ => L2N.passAt tkd σ) (pa_cons (pe_ix ix_tup (pv 1) pe_int (fun _ _ => rfl)) pa_nil))))
          pss_nil)
      (pss_cons
        (ps_if (PW.pt (pw_and (pt_cmpR oSeq (pe_ix ix_tup (pv 1) pe_int (fun _ _ => rfl)) pe_str (nomark _)) (pw_and1 (pt_cmpR oIeq (pe_ix ix_tup (pv 1) pe_int (fun _ _ => rfl)) pe_int (nomark _)))))
          (pss_one
            (ps_ret (pe_methG (pv 0) T.cl_Room T.me_Room_put (ok_Room_put T) (hr.mono (j := 3) (by decide)) kb_Room_put_2 (fun σ => L2N.passAt tkd σ) (pa_cons (pe_ix ix_tup (pv 1) pe_int (fun _ _ => rfl)) (pa_cons (pe_ix ix_tup (pv 1) pe_int (fun _ _ => rfl)) pa_nil)) pk_nil)))
          pss_nil)
      (pss_cons
        (ps_if (PW.pt (pw_and (pt_cmpR oSeq (pe_ix ix_tup (pv 1) pe_int (fun _ _ => rfl)) pe_str (nomark _)) (pw_and1 (pt_cmpR oIeq (pe_op oImod (pe_ix ix_tup (pv 1) pe_int (fun _ _ => rfl)) pe_int) pe_int (nomark _)))))
          (pss_one
            (ps_ret (pe_methG (pv 0) T.cl_Room T.me_Room_put (ok_Room_put T) (hr.mono (j := 3) (by decide)) kb_Room_put_2_lease (fun σ => L2N.passAt tkd σ) (pa_cons (pe_ix ix_tup (pv 1) pe_int (fun _ _ => rfl)) (pa_cons (pe_ix ix_tup (pv 1) pe_int (fun _ _ => rfl)) pa_nil)) (pk_cons (pe_ix ix_tup (pv 1) pe_int (fun _ _ => rfl)) pk_nil))))
          pss_nil)
      (pss_cons
        (ps_if (pt_cmpR oSeq (pe_ix ix_tup (pv 1) pe_int (fun _ _ => rfl)) pe_str (nomark _))
          (pss_one
            (ps_ret (pe_methG (pv 0) T.cl_Room T.me_Room_put (ok_Room_put T) (hr.mono (j := 3) (by decide)) kb_Room_put_3 (fun σ => L2N.passAt tkd σ) (pa_cons (pe_ix ix_tup (pv 1) pe_int (fun _ _ => rfl)) (pa_cons (pe_ix ix_tup (pv 1) pe_int (fun _ _ => rfl)) (pa_cons (pe_ix ix_tup (pv 1) pe_int (fun _ _ => rfl)) pa_nil))) pk_nil)))
          pss_nil)
      (pss_cons
        (ps_if (pt_cmpR oIeq (pe_op oImod (pe_ix ix_tup (pv 1) pe_int (fun _ _ => rfl)) pe_int) pe_int (nomark _))
          (pss_one
            (ps_ret (pe_methG (pv 0) T.cl_Room T.me_Room_cut (ok_Room_cut T) (hr.mono (j := 3) (by decide)) kb_Room_cut_1_lease (fun σ => L2N.passAt tkd σ) (pa_cons (pe_ix ix_tup (pv 1) pe_int (fun _ _ => rfl)) pa_nil) (pk_cons (pe_ix ix_tup (pv 1) pe_int (fun _ _ => rfl)) pk_nil))))
          pss_nil)
      (pss_one
        (ps_ret (pe_methG (pv 0) T.cl_Room T.me_Room_cut (ok_Room_cut T) (hr.mono (j := 3) (by decide)) kb_Room_cut_2 (fun σ => L2N.passAt tkd σ) (pa_cons (pe_ix ix_tup (pv 1) pe_int (fun _ _ => rfl)) (pa_cons (pe_ix ix_tup (pv 1) pe_int (fun _ _ => rfl)) pa_nil)) pk_nil))))))))))), ?_⟩
    obtain ⟨p, F, R, v, d, rfl, hR, ⟨t, rfl, ht⟩, dx, ok, ⟨zk, ze, zs, zg⟩, kE, kQ⟩ := h
    obtain ⟨X, Fp, eF, S⟩ := id hR
    obtain ⟨em, dxx, hp⟩ := S.r .me
    have zg2 : R.G.rows.length + R.kept.length ≤ 900000 := by rw [Nat.succ_mul] at zg; omega
    cases d with
    | grant n =>
      have ht : H t = some (.tup [.str "grant", .int n]) := ht
      repeat wtm_at "k"
      refine k_ifd (fun _ => ?_) fun z => absurd rfl z
      repeat wtm_at "k"
      exact ⟨p, F, R, n, rfl, hR, zs, ze, fun c => kQ (if_pos c), fun c => kE _ (if_neg c)⟩
    | wait n =>
      have ht : H t = some (.tup [.str "wait", .int n]) := ht
      repeat wtm_at "k"
      refine k_ifd (fun z => absurd z (by decide +kernel)) fun _ => ?_
      repeat wtm_at "k"
      refine k_ifd (fun _ => ?_) fun z => absurd rfl z
      repeat wtm_at "k"
      exact ⟨p, F, R, n, rfl, hR, ok, zk, ze, zg, fun c => kE _ (if_neg c), fun c => kQ (if_pos c)⟩
    | renew hand =>
      have ht : H t = some (.tup [.str "renew", .int hand]) := ht
      repeat wtm_at "k"
      refine k_ifd (fun z => absurd z (by decide +kernel)) fun _ => ?_
      repeat wtm_at "k"
      refine k_ifd (fun z => absurd z (by decide +kernel)) fun _ => ?_
      repeat wtm_at "k"
      refine k_ifd (fun _ => ?_) fun z => absurd rfl z
      repeat wtm_at "k"
      refine ⟨p, F, R, hand, rfl, hR, zs, ze, fun e ce => ?_, fun c => kE _ (if_pos c)⟩
      obtain ⟨tk, ct⟩ := ok.sp _ _ ce
      refine ⟨tk, ct, fun H' h' e' => ?_⟩
      have q := kQ (if_neg (by rw [ce]; simp)) H'
      have en : (R.nxt (.renew hand)).2 = { R with L := R.L.renew hand (R.now + tk) } := by show ({ R with L := _ } : RoomS) = _; rw [ct]; rfl
      rw [en] at q
      exact q h' e'
    | drop hand =>
      have ht : H t = some (.tup [.str "drop", .int hand]) := ht
      repeat wtm_at "k"
      refine k_ifd (fun z => absurd z (by decide +kernel)) fun _ => ?_
      repeat wtm_at "k"
      refine k_ifd (fun z => absurd z (by decide +kernel)) fun _ => ?_
      repeat wtm_at "k"
      refine k_ifd (fun z => absurd z (by decide +kernel)) fun _ => ?_
      repeat wtm_at "k"
      refine k_ifd (fun _ => ?_) fun z => absurd rfl z
      repeat wtm_at "k"
      exact ⟨p, F, R, hand, rfl, hR, ok, zk, zg2, fun e ce => kQ (if_neg (by rw [ce]; simp)), fun c => kE _ (if_pos c)⟩
    | put key val hand =>
      have ht : H t = some (.tup [.str "put", .str key, .str val, .int hand]) := ht
      have kA : noLease R hand → E (.ref (He.ga K "NoLease")) none H := fun c => kE _ (if_pos c)
      have kB : ¬ noLease R hand → isHeld R key hand → E (.ref (He.ga K "Held")) none H := fun c c2 => kE _ ((if_neg c).trans (if_pos c2))
      have kC : ¬ noLease R hand → ¬ isHeld R key hand → ∀ H', RoomAt K H' p F (R.put key val hand) → Ext F H H' → Q (.int (R.G.last + 1)) H' := fun c c2 => kQ ((if_neg c).trans (if_neg c2))
      repeat wtm_at "k"
      refine k_ifd (fun z => absurd z (by decide +kernel)) fun _ => ?_
      repeat wtm_at "k"
      refine k_ifd (fun z => absurd z (by decide +kernel)) fun _ => ?_
      repeat wtm_at "k"
      refine k_ifd (fun z => absurd z (by decide +kernel)) fun _ => ?_
      repeat wtm_at "k"
      refine k_ifd (fun z => absurd z (by decide +kernel)) fun _ => ?_
      repeat wtm_at "k"
      refine k_ifd (fun _ => ?_) fun z => absurd rfl z
      repeat wtm_at "k"
      refine k_ifd (fun c0 => ?_) fun c0 => ?_
      · subst c0
        repeat wtm_at "k"
        exact ⟨rfl, rfl, p, F, R, key, val, 0, rfl, hR, dx.1, dx.2, zk, by omega, kA, kB, kC⟩
      repeat wtm_at "k"
      refine k_ifd (fun _ => ?_) fun z => absurd rfl z
      repeat wtm_at "k"
      refine k_ifd (fun c1 => ?_) fun c1 => ?_
      · repeat wtm_at "k"
        exact ⟨rfl, rfl, p, F, R, key, val, hand, rfl, hR, dx.1, dx.2, zk, by omega, kA, kB, kC⟩
      repeat wtm_at "k"
      refine k_ifd (fun _ => ?_) fun z => absurd rfl z
      repeat wtm_at "k"
      exact ⟨rfl, rfl, p, F, R, key, val, hand, rfl, hR, dx.1, dx.2, zk, by omega, kA, kB, kC⟩
    | cut key hand =>
      have ht : H t = some (.tup [.str "cut", .str key, .int hand]) := ht
      have kA : noLease R hand → E (.ref (He.ga K "NoLease")) none H := fun c => kE _ (if_pos c)
      have kN : ¬ noLease R hand → aget R.kept key = none → E (.ref (He.ga K "NoKey")) none H := fun c c2 => kE _ ((if_neg c).trans (if_pos c2))
      have kB : ¬ noLease R hand → aget R.kept key ≠ none → isHeld R key hand → E (.ref (He.ga K "Held")) none H := fun c c1 c2 => kE _ ((if_neg c).trans ((if_neg c1).trans (if_pos c2)))
      have kC : ¬ noLease R hand → aget R.kept key ≠ none → ¬ isHeld R key hand → ∀ H', RoomAt K H' p F (R.cutAt R.now key) → Ext F H H' → Q (.int (R.G.last + 1)) H' := fun c c1 c2 => kQ ((if_neg c).trans ((if_neg c1).trans (if_neg c2)))
      repeat wtm_at "k"
      refine k_ifd (fun z => absurd z (by decide +kernel)) fun _ => ?_
      repeat wtm_at "k"
      refine k_ifd (fun z => absurd z (by decide +kernel)) fun _ => ?_
      repeat wtm_at "k"
      refine k_ifd (fun z => absurd z (by decide +kernel)) fun _ => ?_
      repeat wtm_at "k"
      refine k_ifd (fun z => absurd z (by decide +kernel)) fun _ => ?_
      repeat wtm_at "k"
      refine k_ifd (fun z => absurd z (by decide +kernel)) fun _ => ?_
      repeat wtm_at "k"
      refine k_ifd (fun z => absurd z (by decide +kernel)) fun _ => ?_
      repeat wtm_at "k"
      refine k_ifd (fun z => absurd z (by decide +kernel)) fun _ => ?_
      repeat wtm_at "k"
      refine k_ifd (fun c1 => ?_) fun c1 => ?_
      · repeat wtm_at "k"
        exact ⟨rfl, rfl, p, F, R, key, hand, rfl, hR, dx, zk, by omega, kA, kN, kB, kC⟩
      · repeat wtm_at "k"
        exact ⟨rfl, rfl, p, F, R, key, hand, rfl, hR, dx, zk, by omega, kA, kN, kB, kC⟩
theorem ref_names {R : RoomS} {d : Deed} {n : Str} (h : R.ref d = some n) : n = "BadTicks" ∨ n = "NoLease" ∨ n = "NoKey" ∨ n = "Held" := by
  unfold RoomS.ref at h
  split at h
  all_goals
    repeat' split at h
    all_goals (cases h; first | exact .inl rfl | exact .inr (.inl rfl) | exact .inr (.inr (.inl rfl)) | exact .inr (.inr (.inr rfl)) | skip)
def sp_l_done (K : PySem.W.Frag) : Sp := fun vs H Q _ => ∃ p F R v d, vs = [.ref p, v] ∧ RoomAt K H p F R ∧ IsT fD H v d ∧ DTx d ∧ ROk R ∧ RSz R ∧
  (∀ n, R.ref d = some n → ∀ H', Ext [] H H' → Q (.str n) H') ∧ (R.ref d = none → ∀ H', RoomAt K H' p F (R.nxt d).2 → Ext F H H' → Q (R.nxt d).1 H')
theorem sc_l_done : FnScope ["_law_room", "_law_deed_here", "_law_error", "_law_word"] ["_law_room", "_law_deed_here"] (defScope s_l_done) := ⟨rfl, rfl, rfl, by decide +kernel, rfl, by decide +kernel, by decide +kernel⟩
theorem ok_l_done (T : FX K mg) : FnOk P w K mg base (L2N.CX P w) 6 (He.ga K "_law_done") (fdAt K ("_law_done", none)) ["_law_room", "_law_deed_here"] (sp_l_done K) := by
  refine FunD.ok T.F_l_done sc_l_done (fun vs H Q E h => ?_) (fun cdv A outer s H vs Q E hr h => ?_)
  · (repeat (obtain ⟨_, h⟩ := h)); subst_vars; rfl
  · have hu := hu_of hr
    have hu64 := hr.units
    refine ⟨_,
      (pss_one
        (L2N.ps_try_as (i := 2) rfl rfl sc_l_done.nd rfl rfl ⟨rfl, by decide, Or.inl T.g_LeaseError⟩ tkd
          (fun W pn xe tk1 po1 =>
            (pss_one
              (ps_ret (pe_callS (ok_l_call T) (hr.mono (j := 5) (by decide)) rfl T.g_l_call T.k_l_call T.b_l_call (fun σ => L2N.passAt tk1 σ) (pa_cons (pv 0) (pa_cons (pv 1) pa_nil))))))
          (fun a oe cls d pn hz hf =>
            (pss_cons
              (ps_forN PassesOwn.never (pi_listNS (pe_lst (pa_cons pe_str (pa_cons pe_str (pa_cons pe_str (pa_cons pe_str pa_nil)))))) (pg_name (i := 3) sc_l_done.nd rfl (Or.inl rfl))
                (pss_one
                  (ps_if (pt_val (pe_callES (ok_l_only T) (hr.mono (j := 1) (by decide)) hz hf rfl T.g_l_only T.k_l_only T.b_l_only (pa_cons (pv 2) (pa_cons (pv 3) pa_nil))))
                    (pss_one
                      (ps_ret (pv 3)))
                    pss_nil)))
            (pss_one
              (ps_ret pe_str)))))), ?_⟩
    obtain ⟨p, F, R, v, d, rfl, hR, ⟨t, rfl, ht⟩, dx, ok, sz, kE, kQ⟩ := h
    repeat wtm_at "k"
    refine ⟨p, F, R, _, d, rfl, hR, ⟨t, rfl, ht⟩, dx, ok, sz, fun n hn => ?_, fun hn => ?_⟩
    · have kE := kE n hn
      rcases ref_names hn with rfl | rfl | rfl | rfl
      · refine l_wAs T.e_BadTicks fun a na => ?_
        exact k_seq (l_catch (words := ["BadTicks", "NoLease", "NoKey", "Held"]) (D0 := "BadTicks") (by decide) (by decide +kernel) (by decide) (fun S h => h) rfl (by decide) (by show 3 < 4; decide) (only_sp (by decide)) kE)
      · refine l_wAs T.e_NoLease fun a na => ?_
        exact k_seq (l_catch (words := ["BadTicks", "NoLease", "NoKey", "Held"]) (D0 := "NoLease") (by decide) (by decide +kernel) (by decide) (fun S h => h) rfl (by decide) (by show 3 < 4; decide) (only_sp (by decide)) kE)
      · refine l_wAs T.e_NoKey fun a na => ?_
        exact k_seq (l_catch (words := ["BadTicks", "NoLease", "NoKey", "Held"]) (D0 := "NoKey") (by decide) (by decide +kernel) (by decide) (fun S h => h) rfl (by decide) (by show 3 < 4; decide) (only_sp (by decide)) kE)
      · refine l_wAs T.e_Held fun a na => ?_
        exact k_seq (l_catch (words := ["BadTicks", "NoLease", "NoKey", "Held"]) (D0 := "Held") (by decide) (by decide +kernel) (by decide) (fun S h => h) rfl (by decide) (by show 3 < 4; decide) (only_sp (by decide)) kE)
    · exact kQ hn
def sp_l_deed (K : PySem.W.Frag) : Sp := fun vs H Q _ => ∃ m kvs gv pp ts kind cell more, vs = [.ref m, .ref pp, .int kind, .int cell, .int more] ∧ H m = some (.dK kvs) ∧ valV kvs (Sum.inr "given" : Key) = some (.int gv) ∧ PoolAt H pp ts ∧ 0 ≤ gv ∧
  ∀ v H' d, IsT fD H' v d → DTx d → Ext [] H H' → Q v H'
theorem sc_l_deed : FnScope ["_law_m", "_law_pool_here", "_law_kind", "_law_cell", "_law_more", "_law_hand", "_law_key_here"] ["_law_m", "_law_pool_here", "_law_kind", "_law_cell", "_law_more"] (defScope s_l_deed) := ⟨rfl, rfl, rfl, by decide +kernel, rfl, by decide +kernel, by decide +kernel⟩
theorem ok_l_deed (T : FX K mg) : FnOk P w K mg base (L2N.CX P w) 3 (He.ga K "_law_deed") (fdAt K ("_law_deed", none)) ["_law_m", "_law_pool_here", "_law_kind", "_law_cell", "_law_more"] (sp_l_deed K) := by
  refine FunD.ok T.F_l_deed sc_l_deed (fun vs H Q E h => ?_) (fun cdv A outer s H vs Q E hr h => ?_)
  · (repeat (obtain ⟨_, h⟩ := h)); subst_vars; rfl
  · have hu := hu_of hr
    have hu64 := hr.units
    refine ⟨_,
      (pss_cons
        (ps_set (i := 5) sc_l_deed.nd rfl (Or.inl rfl) (pe_op oImod (pv 3) (pe_op oIadd (pe_dget hu (pv 0) pe_str (fun _ _ => rfl)) pe_int)))
      (pss_cons
        (ps_if (pt_cmpR oIeq (pe_op oImod (pe_op oIdiv (pv 4) pe_int) pe_int) pe_int (nomark _))
          (pss_one
            (ps_set (i := 5) sc_l_deed.nd rfl (Or.inl rfl) (pe_ix ix_list (pe_lst (pa_cons (pe_un un_neg pe_int) (pa_cons (pe_un un_neg pe_int) (pa_cons (pe_op oIpow pe_int pe_int) pa_nil)))) (pe_op oImod (pv 3) pe_int) (fun _ _ => rfl))))
          pss_nil)
      (pss_cons
        (ps_if (pt_cmpR oIlt (pe_op oImod (pv 2) pe_int) pe_int (nomark _))
          (pss_one
            (ps_ret (pe_tup (pa_cons pe_str (pa_cons (pe_callS (ok_l_ticks T) (hr.mono (j := 1) (by decide)) rfl T.g_l_ticks T.k_l_ticks T.b_l_ticks (fun σ => L2N.passAt tkd σ) (pa_cons (pv 3) (pa_cons (pv 4) pa_nil))) pa_nil)))))
          pss_nil)
      (pss_cons
        (ps_if (pt_cmpR oIeq (pe_op oImod (pv 2) pe_int) pe_int (nomark _))
          (pss_one
            (ps_ret (pe_tup (pa_cons pe_str (pa_cons (pv 5) pa_nil)))))
          pss_nil)
      (pss_cons
        (ps_if (pt_cmpR oIeq (pe_op oImod (pv 2) pe_int) pe_int (nomark _))
          (pss_one
            (ps_ret (pe_tup (pa_cons pe_str (pa_cons (pv 5) pa_nil)))))
          pss_nil)
      (pss_cons
        (ps_if (pt_cmpR oIlt (pe_op oImod (pv 2) pe_int) pe_int (nomark _))
          (pss_one
            (ps_ret (pe_tup (pa_cons pe_str (pa_cons (pe_op oIsub (pe_callS (ok_l_ticks T) (hr.mono (j := 1) (by decide)) rfl T.g_l_ticks T.k_l_ticks T.b_l_ticks (fun σ => L2N.passAt tkd σ) (pa_cons (pv 3) (pa_cons (pe_op oIadd (pv 4) pe_int) pa_nil))) (pe_op oImod (pv 4) pe_int)) pa_nil)))))
          pss_nil)
      (pss_cons
        (ps_set (i := 6) sc_l_deed.nd rfl (Or.inl rfl) (pe_ix ix_list (pv 1) (pe_op oImod (pv 4) pe_int) (fun _ _ => rfl)))
      (pss_cons
        (ps_if (pt_cmpR oIlt (pe_op oImod (pv 2) pe_int) pe_int (nomark _))
          (pss_one
            (ps_ret (pe_tup (pa_cons pe_str (pa_cons (pv 6) (pa_cons (pe_callS (ok_l_text T) (hr.mono (j := 2) (by decide)) rfl T.g_l_text T.k_l_text T.b_l_text (fun σ => L2N.passAt tkd σ) (pa_cons (pv 4) (pa_cons (pe_ix ix_list (pe_lst (pa_cons (pe_op oImod (pv 3) pe_int) (pa_cons (pe_op oImod (pv 3) pe_int) pa_nil))) (pe_op oIdiv (pe_op oImod (pe_op oIdiv (pv 4) pe_int) pe_int) pe_int) (fun _ _ => rfl)) pa_nil))) (pa_cons (pv 5) pa_nil)))))))
          pss_nil)
      (pss_one
        (ps_ret (pe_tup (pa_cons pe_str (pa_cons (pv 6) (pa_cons (pv 5) pa_nil)))))))))))))), ?_⟩
    obtain ⟨m, kvs, gv, pp, ts, kind, cell, more, rfl, h1, hgv, hpp, g0, k⟩ := h
    have R0 : Run [] H H := Run.start Live.nil
    repeat wtm_at "k"
    refine k_fork (fun σ' H' => ∃ hand : Int, σ' = [some (.ref m), some (.ref pp), some (.int kind), some (.int cell), some (.int more), some (.int hand), none] ∧ Run [] H H') (fun nx' ky => ?_) ?_
    · refine k_ifd (fun c1 => ?_) fun c1 => ?_
      · obtain ⟨dn, edn⟩ := ixI (xs := [-1, -2, 1000000000000]) (n := cell % 3) (by omega) (by show _ < (3 : Int); omega)
        repeat wtm_at "k"
        exact ky _ _ ⟨_, rfl, by assumption⟩
      · exact k_next (ky _ _ ⟨_, rfl, R0⟩)
    rintro _ H1 ⟨hand, rfl, r1⟩
    have hpp1 : H1 pp = some (.lst (ts.map V.str)) := r1.ext.keep _ _ hpp.at' (by simp)
    clear R0
    repeat wtm_at "k"
    refine k_ifd (fun c1 => ?_) fun c1 => ?_
    · repeat wtm_at "k"
      refine ⟨_, _, rfl, fun H2 e2 => ?_⟩
      have r2 := r1.same e2
      generalize ticksOf cell more = n
      repeat wtm_at "k"
      rename_i t H3 u1 u2 u3 r3 g3 s3
      exact k _ _ (.grant n) ⟨t, rfl, g3⟩ trivial r3.ext
    repeat wtm_at "k"
    refine k_ifd (fun c2 => ?_) fun c2 => ?_
    · repeat wtm_at "k"
      rename_i t H3 u1 u2 u3 r3 g3 s3
      exact k _ _ (.renew hand) ⟨t, rfl, g3⟩ trivial r3.ext
    repeat wtm_at "k"
    refine k_ifd (fun c3 => ?_) fun c3 => ?_
    · repeat wtm_at "k"
      rename_i t H3 u1 u2 u3 r3 g3 s3
      exact k _ _ (.drop hand) ⟨t, rfl, g3⟩ trivial r3.ext
    repeat wtm_at "k"
    refine k_ifd (fun c4 => ?_) fun c4 => ?_
    · repeat wtm_at "k"
      refine ⟨_, _, rfl, fun H2 e2 => ?_⟩
      have r2 := r1.same e2
      generalize ticksOf cell (more + 2) = n
      repeat wtm_at "k"
      rename_i t H3 u1 u2 u3 r3 g3 s3
      exact k _ _ (.wait (n - more % 2)) ⟨t, rfl, g3⟩ trivial r3.ext
    obtain ⟨c0, ek, mc⟩ := atI_mem (xs := ts.map V.str) (n := more % 6) (by omega) (by rw [List.length_map, hpp.len]; omega)
    obtain ⟨key, mk, rfl⟩ := List.mem_map.mp mc
    have tk : Tx 1000 key := (hpp.tx key mk).mono (by decide)
    repeat wtm_at "k"
    refine k_ifd (fun c5 => ?_) fun c5 => ?_
    · obtain ⟨d, ed, hd⟩ : ∃ d, atI (([cell % 5, cell % 41] : List Int).map V.int) (more / 6 % 5 / 4) = some (.int d) ∧ 0 ≤ d ∧ d ≤ 41 := by
        have h : more / 6 % 5 / 4 = 0 ∨ more / 6 % 5 / 4 = 1 := by omega
        rcases h with h | h <;> rw [h] <;> exact ⟨_, rfl, by omega, by omega⟩
      repeat wtm_at "k"
      refine ⟨_, d, rfl, by omega, by omega, fun v H2 tv e2 _ => ?_⟩
      repeat wtm_at "k"
      rename_i t H3 u1 u2 u3 r3 g3 s3
      exact k _ _ (.put key v hand) ⟨t, rfl, g3⟩ ⟨tk, tv.mono (by decide)⟩ r3.ext
    repeat wtm_at "k"
    rename_i t H3 u1 u2 u3 r3 g3 s3
    exact k _ _ (.cut key hand) ⟨t, rfl, g3⟩ tk r3.ext
end
theorem free_rest {R : RoomS} {l t : Int} : (R.free l t).ws = R.ws ∧ (R.free l t).met = R.met := ⟨foldCut_L.2.2.1, foldCut_L.2.2.2⟩
theorem foldEnd_rest : ∀ {l : List (Int × Int)} {R : RoomS}, (l.foldl RoomS.end1 R).ws = R.ws ∧ (l.foldl RoomS.end1 R).met = R.met
  | [], _ => ⟨rfl, rfl⟩
  | d :: l, R => ⟨(foldEnd_rest (l := l) (R := R.end1 d)).1.trans free_rest.1, (foldEnd_rest (l := l) (R := R.end1 d)).2.trans free_rest.2⟩
theorem nxt_ws {R : RoomS} {d : Deed} : (R.nxt d).2.ws = R.ws ∧ (R.nxt d).2.met = R.met := by
  cases d with
  | wait t => exact foldEnd_rest
  | drop h => exact free_rest
  | _ => exact ⟨rfl, rfl⟩
theorem foldEnd_spans : ∀ {l : List (Int × Int)} {R : RoomS}, (l.foldl RoomS.end1 R).L.spans.length ≤ R.L.spans.length
  | [], _ => Nat.le_refl _
  | d :: l, R => by
    refine Nat.le_trans (foldEnd_spans (l := l) (R := R.end1 d)) ?_
    rw [end1_ends]
    exact length_adrop
theorem nxt_spans {R : RoomS} {d : Deed} : (R.nxt d).2.L.spans.length ≤ R.L.spans.length + 1 := by
  cases d with
  | grant t => exact length_aput
  | wait t => exact Nat.le_succ_of_le foldEnd_spans
  | renew h => exact Nat.le_succ _
  | drop h =>
    show (RoomS.free { R with L := R.L.drop h } h R.now).L.spans.length ≤ _
    rw [free_L]
    exact Nat.le_succ_of_le length_adrop
  | put k v h => exact Nat.le_succ _
  | cut k h => exact Nat.le_succ _
end LW

set_option maxHeartbeats 4000000
namespace LW
open PySem PySem.Spec PyProof.Rows L2
/-! ### the keys that stand by the changes -/
def rep (l : List (Str × Unit)) (r : Row) : List (Str × Unit) := if r.w = "cut" then adrop (aput l r.k ()) r.k else aput l r.k ()
def repAll (rows : List Row) : List (Str × Unit) := rows.foldl rep []
theorem repAll_snoc {rows : List Row} {r : Row} : repAll (rows ++ [r]) = rep (repAll rows) r := by unfold repAll; rw [List.foldl_append]; rfl
theorem aget_rep {l : List (Str × Unit)} {r : Row} {k : Str} : aget (rep l r) k ≠ none ↔ (if r.w = "cut" then k ≠ r.k ∧ aget l k ≠ none else k = r.k ∨ aget l k ≠ none) := by
  unfold rep
  by_cases c : r.w = "cut"
  · rw [if_pos c, if_pos c, aget_adrop]
    by_cases e : r.k = k
    · rw [if_pos e]
      constructor
      · intro z; exact absurd rfl z
      · intro z; exact absurd e.symm z.1
    · rw [if_neg e, aget_aput, if_neg e]
      constructor
      · intro z; exact ⟨fun y => e y.symm, z⟩
      · intro z; exact z.2
  · rw [if_neg c, if_neg c, aget_aput]
    by_cases e : r.k = k
    · rw [if_pos e]
      constructor
      · intro _; exact .inl e.symm
      · intro _ z; cases z
    · rw [if_neg e]
      constructor
      · intro z; exact .inr z
      · intro z; exact z.elim (fun y => absurd y.symm e) id
theorem adrop_lt {α : Type} {l : List (Str × α)} {k : Str} (h : aget l k ≠ none) : (adrop l k).length < l.length := by
  cases e : aget l k with
  | none => exact absurd e h
  | some v =>
    unfold adrop
    refine List.length_filter_lt_length_iff_exists.mpr ⟨(k, v), aget_some_mem e, ?_⟩
    simp
/-- the history: all changes, those that were done by deeds, up to the tick b -/
structure Hst (R : RoomS) (rows : List Row) (g : Int) (ml : List (Int × Row)) (b : Int) : Prop where
  jl : Jl R.G ⟨rows, g⟩
  tk : rows.Pairwise fun a b => a.t ≤ b.t
  tb : ∀ r ∈ rows, 0 ≤ r.t ∧ r.t ≤ b
  kn : ∀ r ∈ rows, aget ml r.n = some r ∨ (aget ml r.n = none ∧ r.w = "cut" ∧ r.v = "")
  cu : ∀ (i : Nat) r, rows[i]? = some r → r.w = "cut" → aget (repAll (rows.take i)) r.k ≠ none
  ks : ∀ k, aget R.kept k ≠ none ↔ aget (repAll rows) k ≠ none
  ce : rows.length + R.kept.length ≤ 2 * ml.length
  ub : ∀ k : Int, k ∈ ml.map (·.1) → 1 ≤ k ∧ k ≤ (rows.length : Int)
  nk : (R.kept.map (·.1)).Nodup
  ok : OkK R.kept
  b0 : 0 ≤ b
  vs : ∀ k, aget (rows.foldl stEv []) k = (aget R.kept k).map (·.1)
theorem Hst.mono {R : RoomS} {rows : List Row} {g : Int} {ml : List (Int × Row)} {b b' : Int} (h : Hst R rows g ml b) (z : b ≤ b') : Hst R rows g ml b' :=
  { h with tb := fun r hr => ⟨(h.tb r hr).1, Int.le_trans (h.tb r hr).2 z⟩, b0 := Int.le_trans h.b0 z }
theorem Hst.free {R : RoomS} {rows : List Row} {g : Int} {ml : List (Int × Row)} {b : Int} (h : Hst R rows g ml b) : aget ml ((rows.length : Int) + 1) = none := aget_none.mpr fun z => by have := h.ub _ z; omega
theorem Hst.num {R : RoomS} {rows : List Row} {g : Int} {ml : List (Int × Row)} {b : Int} (h : Hst R rows g ml b) {r : Row} (hr : r ∈ rows) : 1 ≤ r.n ∧ r.n ≤ rows.length := by
  obtain ⟨i, hi, e⟩ := List.mem_iff_getElem.mp hr
  have := h.jl.nm i r (by rw [List.getElem?_eq_getElem hi, e])
  omega
theorem Hst.add {R R' : RoomS} {rows : List Row} {g : Int} {ml ml' : List (Int × Row)} {b b' : Int} (h : Hst R rows g ml b) {r : Row} (eG : R'.G = R.G.note r) (en : r.n = rows.length + 1) (t1 : b ≤ r.t) (t2 : r.t ≤ b') (cut : r.w = "cut" → aget R.kept r.k ≠ none)
    (ks : ∀ k, aget R'.kept k ≠ none ↔ (if r.w = "cut" then k ≠ r.k ∧ aget R.kept k ≠ none else k = r.k ∨ aget R.kept k ≠ none)) (hm : (ml' = ml ∧ r.w = "cut" ∧ r.v = "") ∨ ml' = aput ml r.n r) (ce : rows.length + 1 + R'.kept.length ≤ 2 * ml'.length) (nk : (R'.kept.map (·.1)).Nodup) (ok : OkK R'.kept) (vs : ∀ k, (aget R'.kept k).map (·.1) = if r.w = "put" then (if r.k = k then some r.v else (aget R.kept k).map (·.1)) else (if r.k = k then none else (aget R.kept k).map (·.1))) : Hst R' (rows ++ [r]) g ml' b' := by
  have fr : aget ml r.n = none := by rw [en]; exact h.free
  have lr : (rows ++ [r]).length = rows.length + 1 := by rw [List.length_append]; rfl
  have t0 : 0 ≤ r.t := Int.le_trans h.b0 t1
  refine ⟨by rw [eG]; exact h.jl.note (r := r) en, ?_, fun q hq => ?_, fun q hq => ?_, fun i q hq hc => ?_, fun k => ?_, by rw [lr]; omega, fun k hk => ?_, nk, ok, Int.le_trans t0 t2, fun k => ?_⟩
  · refine List.pairwise_append.mpr ⟨h.tk, List.pairwise_singleton _ _, fun x hx y hy => ?_⟩
    rw [List.mem_singleton.mp hy]
    exact Int.le_trans (h.tb x hx).2 t1
  · rcases List.mem_append.mp hq with hq | hq
    · have := h.tb q hq; exact ⟨this.1, by omega⟩
    · rw [List.mem_singleton.mp hq]; exact ⟨t0, t2⟩
  · rcases List.mem_append.mp hq with hq | hq
    · have nq := h.num hq
      rcases hm with ⟨rfl, _⟩ | rfl
      · exact h.kn q hq
      · rw [aget_aput, if_neg (by omega)]
        exact h.kn q hq
    · rw [List.mem_singleton.mp hq]
      rcases hm with ⟨rfl, hc, hv⟩ | rfl
      · exact .inr ⟨fr, hc, hv⟩
      · rw [aget_aput, if_pos rfl]; exact .inl rfl
  · rcases Nat.lt_trichotomy i rows.length with z | z | z
    · rw [List.getElem?_append_left z] at hq
      rw [List.take_append_of_le_length (by omega)]
      exact h.cu i q hq hc
    · rw [z, List.getElem?_append_right (Nat.le_refl _), Nat.sub_self] at hq
      have e : r = q := Option.some.inj hq
      subst e
      rw [z, List.take_append_of_le_length (Nat.le_refl _), List.take_length]
      exact (h.ks _).mp (cut hc)
    · rw [List.getElem?_append_right (by omega), List.getElem?_eq_none (by simp; omega)] at hq
      cases hq
  · rw [repAll_snoc, ks k, aget_rep]
    split
    · exact and_congr_right fun _ => h.ks k
    · exact or_congr_right (h.ks k)
  · rw [lr]
    rcases hm with ⟨rfl, _⟩ | rfl
    · have := h.ub k hk; omega
    · rcases mem_keys_aput.mp hk with z | z
      · rw [z, en]; omega
      · have := h.ub k z; omega
  · rw [List.foldl_append, vs k]
    show aget (stEv (rows.foldl stEv []) r) k = _
    unfold stEv
    by_cases c : r.w = "put"
    · rw [if_pos c, if_pos c, aget_aput]
      by_cases e : r.k = k
      · rw [if_pos e, if_pos e]
      · rw [if_neg e, if_neg e]; exact h.vs k
    · rw [if_neg c, if_neg c, aget_adrop]
      by_cases e : r.k = k
      · rw [if_pos e, if_pos e]
      · rw [if_neg e, if_neg e]; exact h.vs k
theorem Hst.last {R : RoomS} {rows : List Row} {g : Int} {ml : List (Int × Row)} {b : Int} (h : Hst R rows g ml b) : R.G.last = rows.length := h.jl.last
/-- a key is cut -/
theorem Hst.cutK {R : RoomS} {rows : List Row} {g : Int} {ml ml' : List (Int × Row)} {b t : Int} {k : Str} (h : Hst R rows g ml b) (bt : b ≤ t) (hk : aget R.kept k ≠ none) (hm : ml' = ml ∨ ml' = aput ml (rows.length + 1) ⟨rows.length + 1, t, "cut", k, "", tx_cut, (by
    cases e : aget R.kept k with
    | none => exact absurd e hk
    | some v => exact (h.ok _ (aget_some_mem e)).1), tx_no⟩) : ∃ r : Row, Hst (R.cutAt t k) (rows ++ [r]) g ml' t ∧ r.n = (rows.length : Int) + 1 := by
  have tk : Tx 1000 k := by
    cases e : aget R.kept k with
    | none => exact absurd e hk
    | some v => exact (h.ok _ (aget_some_mem e)).1
  have er : (ntOf t "cut" k "").row (R.G.last + 1) = ⟨rows.length + 1, t, "cut", k, "", tx_cut, tk, tx_no⟩ := by rw [ntOf_eq tx_cut tk tx_no, h.last]; rfl
  have lt := adrop_lt hk
  have ce := h.ce
  refine ⟨⟨rows.length + 1, t, "cut", k, "", tx_cut, tk, tx_no⟩, h.add (r := ⟨rows.length + 1, t, "cut", k, "", tx_cut, tk, tx_no⟩) ?_ rfl bt (Int.le_refl _) (fun _ => hk) (fun j => ?_) (hm.imp (fun e => ⟨e, rfl, rfl⟩) id) ?_ (nodup_adrop h.nk) (fun p hp => h.ok p (mem_adrop.mp hp).1) (fun j => ?_), rfl⟩
  · rw [← er]; rfl
  · show aget (adrop R.kept k) j ≠ none ↔ _
    rw [if_pos rfl, aget_adrop]
    by_cases e : k = j
    · rw [if_pos e]
      constructor
      · intro z; exact absurd rfl z
      · intro z; exact absurd e.symm z.1
    · rw [if_neg e]
      constructor
      · intro z; exact ⟨fun y => e y.symm, z⟩
      · intro z; exact z.2
  · show rows.length + 1 + (adrop R.kept k).length ≤ 2 * ml'.length
    rcases hm with e | e
    · rw [e]; omega
    · rw [e, aput_new h.free, List.length_append]
      show _ ≤ 2 * (ml.length + 1)
      omega
  · show (aget (adrop R.kept k) j).map (·.1) = _
    rw [if_neg (show ¬ (("cut" : Str) = "put") by decide +kernel), aget_adrop]
    by_cases e : k = j
    · rw [if_pos e, if_pos (show k = j from e)]; rfl
    · rw [if_neg e, if_neg (show ¬ k = j from e)]
theorem Hst.put {R : RoomS} {rows : List Row} {g : Int} {ml : List (Int × Row)} {k v : Str} {hd : Int} (h : Hst R rows g ml R.now) (tk : Tx 1000 k) (tv : Tx 1000 v) :
    Hst (R.put k v hd) (rows ++ [⟨rows.length + 1, R.now, "put", k, v, tx_put, tk, tv⟩]) g (aput ml (rows.length + 1) ⟨rows.length + 1, R.now, "put", k, v, tx_put, tk, tv⟩) R.now := by
  have er : (ntOf R.now "put" k v).row (R.G.last + 1) = ⟨rows.length + 1, R.now, "put", k, v, tx_put, tk, tv⟩ := by rw [ntOf_eq tx_put tk tv, h.last]; rfl
  have ce := h.ce
  have la := length_aput (l := R.kept) (k := k) (v := (v, hd))
  have npc : ¬ (("put" : Str) = "cut") := by decide +kernel
  refine h.add (r := ⟨rows.length + 1, R.now, "put", k, v, tx_put, tk, tv⟩) ?_ rfl (Int.le_refl _) (Int.le_refl _) (fun z => absurd z npc) (fun j => ?_) (.inr rfl) ?_ (nodup_aput h.nk) (fun p hp => (mem_aput hp).elim (fun e => by rw [e]; exact ⟨tk, tv⟩) fun z => h.ok p z.1) (fun j => ?_)
  · rw [← er]; rfl
  · show aget (aput R.kept k (v, hd)) j ≠ none ↔ _
    rw [if_neg npc, aget_aput]
    by_cases e : k = j
    · rw [if_pos e]
      constructor
      · intro _; exact .inl e.symm
      · intro _ z; cases z
    · rw [if_neg e]
      constructor
      · intro z; exact .inr z
      · intro z; exact z.elim (fun y => absurd y.symm e) id
  · show rows.length + 1 + (aput R.kept k (v, hd)).length ≤ _
    rw [aput_new h.free, List.length_append]
    show _ ≤ 2 * (ml.length + 1)
    omega
  · show (aget (aput R.kept k (v, hd)) j).map (·.1) = _
    rw [if_pos rfl, aget_aput]
    by_cases e : k = j
    · rw [if_pos e, if_pos (show k = j from e)]; rfl
    · rw [if_neg e, if_neg (show ¬ k = j from e)]
/-- nothing but the leases, the tick, the watchers changes -/
theorem Hst.keep {R R' : RoomS} {rows : List Row} {g : Int} {ml : List (Int × Row)} {b : Int} (h : Hst R rows g ml b) (eG : R'.G = R.G) (ek : R'.kept = R.kept) : Hst R' rows g ml b :=
  { h with jl := by rw [eG]; exact h.jl, ks := by rw [ek]; exact h.ks, ce := by rw [ek]; exact h.ce, nk := by rw [ek]; exact h.nk, ok := by rw [ek]; exact h.ok, vs := by rw [ek]; exact h.vs }
theorem Hst.cuts {t : Int} : ∀ {ks : List Str} {R : RoomS} {rows : List Row} {g : Int} {ml : List (Int × Row)} {b : Int}, Hst R rows g ml b → b ≤ t → ks.Nodup → (∀ k ∈ ks, aget R.kept k ≠ none) → ∃ ext, Hst (ks.foldl (fun R k => R.cutAt t k) R) (rows ++ ext) g ml t
  | [], R, rows, g, ml, b, h, bt, _, _ => ⟨[], by rw [List.append_nil]; exact h.mono bt⟩
  | k :: ks, R, rows, g, ml, b, h, bt, nd, hk => by
    obtain ⟨r, h1, _⟩ := h.cutK (ml' := ml) (k := k) bt (hk k List.mem_cons_self) (.inl rfl)
    have nd := List.nodup_cons.mp nd
    obtain ⟨ext, h2⟩ := Hst.cuts (ks := ks) h1 (Int.le_refl _) nd.2 fun j hj => by
      show aget (adrop R.kept k) j ≠ none
      have n : k ≠ j := fun e => nd.1 (by rw [e]; exact hj)
      rw [aget_adrop, if_neg n]
      exact hk j (List.mem_cons_of_mem _ hj)
    exact ⟨r :: ext, by rw [List.append_assoc] at h2; exact h2⟩
theorem Hst.freeL {R : RoomS} {rows : List Row} {g : Int} {ml : List (Int × Row)} {b l t : Int} (h : Hst R rows g ml b) (bt : b ≤ t) : ∃ ext, Hst (R.free l t) (rows ++ ext) g ml t :=
  h.cuts bt (keysOf_nodup h.nk) fun k hk => by
    obtain ⟨x, hx, _⟩ := keysOf_mem hk
    rw [aget_of_mem h.nk hx]; simp
theorem Hst.ends : ∀ {ds : List (Int × Int)} {R : RoomS} {rows : List Row} {g : Int} {ml : List (Int × Row)} {b B : Int}, Hst R rows g ml b → b ≤ B → (∀ d ∈ ds, b ≤ d.1 ∧ d.1 ≤ B) → ds.Pairwise (fun a b => a.1 ≤ b.1) → ∃ ext, Hst (ds.foldl RoomS.end1 R) (rows ++ ext) g ml B
  | [], R, rows, g, ml, b, B, h, bB, _, _ => ⟨[], by rw [List.append_nil]; exact h.mono bB⟩
  | d :: ds, R, rows, g, ml, b, B, h, bB, hd, pw => by
    have h0 : Hst { R with L := R.L.drop d.2 } rows g ml b := h.keep rfl rfl
    obtain ⟨e1, h1⟩ := h0.freeL (l := d.2) (hd d List.mem_cons_self).1
    have pw := List.pairwise_cons.mp pw
    obtain ⟨e2, h2⟩ := Hst.ends (ds := ds) (R := R.end1 d) h1 (hd d List.mem_cons_self).2 (fun x hx => ⟨pw.1 x hx, (hd x (List.mem_cons_of_mem _ hx)).2⟩) pw.2
    exact ⟨e1 ++ e2, by rw [List.append_assoc] at h2; exact h2⟩
/-- what the leases keep -/
structure LOk (R : RoomS) : Prop where
  en : ∀ p ∈ R.L.ends, R.now < p.2
  sp : ∀ p ∈ R.L.spans, 1 ≤ p.2
  rk : ROk R
  g0 : 0 ≤ R.L.given
/-- what the law books of a deed -/
noncomputable def bookOf (n now : Int) : Deed → List (Int × Row) → List (Int × Row)
  | .put k v _, ml => aput ml n ((ntOf now "put" k v).row n)
  | .cut k _, ml => aput ml n ((ntOf now "cut" k "").row n)
  | _, ml => ml
def nowOf (now : Int) : Deed → Int
  | .wait t => now + t
  | _ => now
def givenOf (g : Int) : Deed → Int
  | .grant _ => g + 1
  | _ => g
theorem foldDrop_mem : ∀ {l : List Int} {kp : List (Int × Int)} {p : Int × Int}, p ∈ l.foldl adrop kp → p ∈ kp ∧ p.1 ∉ l
  | [], _, _, h => ⟨h, fun z => by cases z⟩
  | k :: l, kp, p, h => by
    obtain ⟨h1, h2⟩ := foldDrop_mem (l := l) (kp := adrop kp k) h
    obtain ⟨h3, h4⟩ := mem_adrop.mp h1
    exact ⟨h3, fun z => (List.mem_cons.mp z).elim h4 h2⟩
theorem foldEnd_spansM : ∀ {l : List (Int × Int)} {R : RoomS} {p : Int × Int}, p ∈ (l.foldl RoomS.end1 R).L.spans → p ∈ R.L.spans
  | [], _, _, h => h
  | d :: l, R, p, h => by
    have := foldEnd_spansM (l := l) (R := R.end1 d) h
    rw [end1_ends] at this
    exact (mem_adrop.mp this).1
theorem foldEnd_given : ∀ {l : List (Int × Int)} {R : RoomS}, (l.foldl RoomS.end1 R).L.given = R.L.given
  | [], _ => rfl
  | d :: l, R => by
    rw [show ((d :: l).foldl RoomS.end1 R) = l.foldl RoomS.end1 (R.end1 d) from rfl, foldEnd_given, end1_ends]; rfl
theorem due_sorted {L : LS} {til : Int} : (L.due til).Pairwise fun a b => a.1 ≤ b.1 := by
  refine List.Pairwise.imp (fun {a b} h => ?_) (sortP_sorted (L.dueRaw til))
  rcases h with h | h
  · omega
  · omega
theorem Hst.nxt {R : RoomS} {rows : List Row} {g : Int} {ml : List (Int × Row)} (h : Hst R rows g ml R.now) (lo : LOk R) {d : Deed} (hd : R.ref d = none) (dx : DTx d) :
    ∃ ext, Hst (R.nxt d).2 (rows ++ ext) g (bookOf (rows.length + 1) R.now d ml) (nowOf R.now d) ∧ (R.nxt d).2.now = nowOf R.now d ∧ LOk (R.nxt d).2 ∧ (R.nxt d).2.L.given = givenOf R.L.given d ∧ R.now ≤ nowOf R.now d := by
  cases d with
  | grant t =>
    have c : 1 ≤ t ∧ t ≤ 1000000 := by
      unfold RoomS.ref at hd
      dsimp only at hd
      split at hd
      · assumption
      · cases hd
    refine ⟨[], by rw [List.append_nil]; exact h.keep rfl rfl, rfl, ⟨fun p hp => ?_, fun p hp => ?_, ?_, ?_⟩, rfl, Int.le_refl _⟩
    · rcases mem_aput hp with e | e
      · rw [e]; show R.now < R.now + t; omega
      · exact lo.en p e.1
    · rcases mem_aput hp with e | e
      · rw [e]; exact c.1
      · exact lo.sp p e.1
    · refine ⟨fun k e he => ?_, nodup_aput lo.rk.ne, lo.rk.nk⟩
      have he : aget (aput R.L.ends (R.L.given + 1) (R.now + t)) k = some e := he
      show ∃ s, aget (aput R.L.spans (R.L.given + 1) t) k = some s
      rw [aget_aput] at he ⊢
      by_cases z : R.L.given + 1 = k
      · rw [if_pos z]; exact ⟨_, rfl⟩
      · rw [if_neg z] at he ⊢; exact lo.rk.sp k e he
    · have := lo.g0
      show 0 ≤ R.L.given + 1
      omega
  | renew l =>
    have c : aget R.L.ends l ≠ none := fun z => by unfold RoomS.ref at hd; dsimp only at hd; rw [if_pos z] at hd; cases hd
    obtain ⟨e0, he0⟩ : ∃ e, aget R.L.ends l = some e := by cases q : aget R.L.ends l with
      | none => exact absurd q c
      | some e => exact ⟨e, rfl⟩
    obtain ⟨s, hs⟩ := lo.rk.sp l e0 he0
    have s1 := lo.sp _ (aget_some_mem hs)
    refine ⟨[], by rw [List.append_nil]; exact h.keep rfl rfl, rfl, ⟨fun p hp => ?_, lo.sp, ⟨fun k e he => ?_, nodup_aput lo.rk.ne, lo.rk.nk⟩, lo.g0⟩, rfl, Int.le_refl _⟩
    · have hp : p ∈ aput R.L.ends l (R.now + (aget R.L.spans l).getD 0) := hp
      rw [hs] at hp
      rcases mem_aput hp with e | e
      · rw [e]; show R.now < R.now + s
        have s1 : 1 ≤ s := s1
        omega
      · exact lo.en p e.1
    · have he : aget (aput R.L.ends l (R.now + (aget R.L.spans l).getD 0)) k = some e := he
      rw [aget_aput] at he
      by_cases z : l = k
      · rw [← z]; exact ⟨s, hs⟩
      · rw [if_neg z] at he; exact lo.rk.sp k e he
  | drop l =>
    have h0 : Hst { R with L := R.L.drop l } rows g ml R.now := h.keep rfl rfl
    obtain ⟨ext, h1⟩ := h0.freeL (l := l) (Int.le_refl _)
    have eL : (R.drop l).L = R.L.drop l := free_L
    have en : (R.drop l).now = R.now := foldCut_L.2.1
    refine ⟨ext, h1, en, ⟨fun p hp => ?_, fun p hp => ?_, (lo.rk.drop (l := l)).free, ?_⟩, ?_, Int.le_refl _⟩
    · have hp : p ∈ (R.drop l).L.ends := hp
      rw [eL] at hp
      show (R.drop l).now < p.2
      rw [en]
      exact lo.en p (mem_adrop.mp hp).1
    · have hp : p ∈ (R.drop l).L.spans := hp
      rw [eL] at hp
      exact lo.sp p (mem_adrop.mp hp).1
    · show 0 ≤ (R.drop l).L.given
      rw [eL]; exact lo.g0
    · show (R.drop l).L.given = _
      rw [eL]; rfl
  | wait t =>
    have c : 0 ≤ t ∧ t ≤ 1000000 := by
      unfold RoomS.ref at hd
      dsimp only at hd
      split at hd
      · assumption
      · cases hd
    have dm : ∀ d ∈ R.L.due (R.now + t), R.now ≤ d.1 ∧ d.1 ≤ R.now + t := fun d hd => by
      have := (sortP_perm _).mem_iff.mp hd
      obtain ⟨p, hp, rfl⟩ := List.mem_map.mp this
      obtain ⟨h1, h2⟩ := List.mem_filter.mp hp
      have h3 := lo.en p h1
      have h4 : p.2 ≤ R.now + t := of_decide_eq_true h2
      exact ⟨by show R.now ≤ p.2; omega, h4⟩
    obtain ⟨ext, h1⟩ := h.ends (ds := R.L.due (R.now + t)) (B := R.now + t) (by omega) dm due_sorted
    refine ⟨ext, h1.keep rfl rfl, rfl, ⟨fun p hp => ?_, fun p hp => lo.sp p (foldEnd_spansM hp), ?_, ?_⟩, ?_, by show R.now ≤ R.now + t; omega⟩
    · have hp : p ∈ ((R.L.due (R.now + t)).foldl RoomS.end1 R).L.ends := hp
      rw [foldEnd_ends] at hp
      obtain ⟨h2, h3⟩ := foldDrop_mem hp
      show R.now + t < p.2
      rcases Int.lt_or_le (R.now + t) p.2 with z | z
      · exact z
      · refine absurd ?_ h3
        have : (p.2, p.1) ∈ R.L.due (R.now + t) := (sortP_perm _).mem_iff.mpr (List.mem_map.mpr ⟨p, List.mem_filter.mpr ⟨h2, decide_eq_true z⟩, rfl⟩)
        exact List.mem_map_of_mem (f := (·.2)) this
    · have := foldEnd_ok (l := R.L.due (R.now + t)) lo.rk
      exact ⟨this.sp, this.ne, this.nk⟩
    · show 0 ≤ ((R.L.due (R.now + t)).foldl RoomS.end1 R).L.given
      rw [foldEnd_given]; exact lo.g0
    · show ((R.L.due (R.now + t)).foldl RoomS.end1 R).L.given = _
      rw [foldEnd_given]; rfl
  | put k v l =>
    have er : (ntOf R.now "put" k v).row ((rows.length : Int) + 1) = ⟨rows.length + 1, R.now, "put", k, v, tx_put, dx.1, dx.2⟩ := by rw [ntOf_eq tx_put dx.1 dx.2]; rfl
    refine ⟨[⟨rows.length + 1, R.now, "put", k, v, tx_put, dx.1, dx.2⟩], ?_, rfl, ⟨lo.en, lo.sp, ⟨lo.rk.sp, lo.rk.ne, nodup_aput lo.rk.nk⟩, lo.g0⟩, rfl, Int.le_refl _⟩
    show Hst _ _ g (aput ml _ ((ntOf R.now "put" k v).row ((rows.length : Int) + 1))) _
    rw [er]
    exact h.put dx.1 dx.2
  | cut k l =>
    have c : aget R.kept k ≠ none := fun z => by
      unfold RoomS.ref at hd
      dsimp only at hd
      split at hd
      · cases hd
      · first
          | cases hd
          | (rw [if_pos z] at hd; cases hd)
    have er : (ntOf R.now "cut" k "").row ((rows.length : Int) + 1) = ⟨rows.length + 1, R.now, "cut", k, "", tx_cut, dx, tx_no⟩ := by rw [ntOf_eq tx_cut dx tx_no]; rfl
    obtain ⟨r, h1, _⟩ := h.cutK (k := k) (Int.le_refl _) c (.inr rfl)
    refine ⟨[r], ?_, rfl, ⟨lo.en, lo.sp, ⟨lo.rk.sp, lo.rk.ne, nodup_adrop lo.rk.nk⟩, lo.g0⟩, rfl, Int.le_refl _⟩
    show Hst _ _ g (aput ml _ ((ntOf R.now "cut" k "").row ((rows.length : Int) + 1))) _
    rw [er]
    exact h1
/-! ### leases have numbers from 1 on; what stands without a lease -/
def E1 (R : RoomS) : Prop := ∀ p ∈ R.L.ends, 1 ≤ p.1
theorem foldEnd_endsM : ∀ {l : List (Int × Int)} {R : RoomS} {p : Int × Int}, p ∈ (l.foldl RoomS.end1 R).L.ends → p ∈ R.L.ends
  | [], _, _, h => h
  | d :: l, R, p, h => by
    have := foldEnd_endsM (l := l) (R := R.end1 d) h
    rw [end1_ends] at this
    exact (mem_adrop.mp this).1
theorem E1.nxt {R : RoomS} {d : Deed} (h : E1 R) (g0 : 0 ≤ R.L.given) (hd : R.ref d = none) : E1 (R.nxt d).2 := by
  cases d with
  | grant t =>
    intro p hp
    rcases mem_aput hp with e | e
    · rw [e]; show 1 ≤ R.L.given + 1; omega
    · exact h p e.1
  | renew l =>
    have c : aget R.L.ends l ≠ none := fun z => by unfold RoomS.ref at hd; dsimp only at hd; rw [if_pos z] at hd; cases hd
    intro p hp
    rcases mem_aput hp with e | e
    · rw [e]
      cases q : aget R.L.ends l with
      | none => exact absurd q c
      | some e0 => exact h (l, e0) (aget_some_mem q)
    · exact h p e.1
  | drop l =>
    intro p hp
    have hp : p ∈ (RoomS.free { R with L := R.L.drop l } l R.now).L.ends := hp
    rw [free_L] at hp
    exact h p (mem_adrop.mp hp).1
  | wait t => exact fun p hp => h p (foldEnd_endsM hp)
  | put k v l => exact h
  | cut k l => exact h
theorem free_stays {R : RoomS} {l t : Int} {k v : Str} (l0 : l ≠ 0) (nk : (R.kept.map (·.1)).Nodup) (h : aget R.kept k = some (v, 0)) : aget (R.free l t).kept k = some (v, 0) := by
  rw [free_kept, aget_foldDrop fun z => ?_]
  · exact h
  · obtain ⟨x, hx, e⟩ := keysOf_mem z
    rw [aget_of_mem nk hx] at h
    rw [Option.some.inj h] at e
    exact l0 e.symm
theorem ends_stay : ∀ {ds : List (Int × Int)} {R : RoomS} {k v : Str}, (∀ d ∈ ds, d.2 ≠ 0) → (R.kept.map (·.1)).Nodup → aget R.kept k = some (v, 0) → aget (ds.foldl RoomS.end1 R).kept k = some (v, 0)
  | [], _, _, _, _, _, h => h
  | d :: ds, R, k, v, hd, nk, h => by
    refine ends_stay (ds := ds) (R := R.end1 d) (fun x hx => hd x (List.mem_cons_of_mem _ hx)) ?_ (free_stays (R := { R with L := R.L.drop d.2 }) (hd d List.mem_cons_self) nk h)
    show ((RoomS.free { R with L := R.L.drop d.2 } d.2 d.1).kept.map (·.1)).Nodup
    rw [free_kept]
    exact nodup_foldDrop nk
/-- what the law keeps of deeds: the value of a key that was put without a lease -/
def freeOf (fm : List (Str × Option Str)) : Deed → List (Str × Option Str)
  | .put k v h => aput fm k (if h = 0 then some v else none)
  | .cut k _ => aput fm k none
  | _ => fm
def Fr (R : RoomS) (fm : List (Str × Option Str)) : Prop := ∀ k v, aget fm k = some (some v) → aget R.kept k = some (v, 0)
theorem Fr.nxt {R : RoomS} {fm : List (Str × Option Str)} {d : Deed} (h : Fr R fm) (e1 : E1 R) (nk : (R.kept.map (·.1)).Nodup) (hd : R.ref d = none) : Fr (R.nxt d).2 (freeOf fm d) := by
  cases d with
  | grant t => exact h
  | renew l => exact h
  | drop l =>
    have c : aget R.L.ends l ≠ none := fun z => by unfold RoomS.ref at hd; dsimp only at hd; rw [if_pos z] at hd; cases hd
    have l0 : l ≠ 0 := fun z => by
      cases q : aget R.L.ends l with
      | none => exact c q
      | some e0 =>
        have : 1 ≤ l := e1 _ (aget_some_mem q)
        omega
    exact fun k v e => free_stays (R := { R with L := R.L.drop l }) l0 nk (h k v e)
  | wait t =>
    refine fun k v e => ends_stay (ds := R.L.due (R.now + t)) (fun d hd z => ?_) nk (h k v e)
    have := (sortP_perm _).mem_iff.mp hd
    obtain ⟨p, hp, rfl⟩ := List.mem_map.mp this
    have : 1 ≤ p.1 := e1 p (List.mem_filter.mp hp).1
    have z : p.1 = 0 := z
    omega
  | put j w hh =>
    intro k v e
    have e : aget (aput fm j (if hh = 0 then some w else none)) k = some (some v) := e
    show aget (aput R.kept j (w, hh)) k = some (v, 0)
    rw [aget_aput] at e ⊢
    by_cases c : j = k
    · rw [if_pos c] at e ⊢
      by_cases c2 : hh = 0
      · rw [if_pos c2] at e
        rw [Option.some.inj (Option.some.inj e), c2]
      · rw [if_neg c2] at e; cases Option.some.inj e
    · rw [if_neg c] at e ⊢
      exact h k v e
  | cut j hh =>
    intro k v e
    have e : aget (aput fm j none) k = some (some v) := e
    show aget (adrop R.kept j) k = some (v, 0)
    rw [aget_aput] at e
    rw [aget_adrop]
    by_cases c : j = k
    · rw [if_pos c] at e; cases Option.some.inj e
    · rw [if_neg c] at e ⊢
      exact h k v e
theorem freeOf_len {fm : List (Str × Option Str)} {d : Deed} : (freeOf fm d).length ≤ fm.length + 1 := by
  cases d <;> first
    | exact length_aput
    | exact Nat.le_succ _
end LW

set_option maxHeartbeats 4000000
namespace LW
open PySem PySem.Spec PyProof.Rows L2
/-! ### numbers that rise -/
def Rise (l : List Row) : Prop := l.Pairwise fun a b => a.n < b.n
theorem Num.rise {s : Int} {l : List Row} (h : Num s l) : Rise l := by
  refine List.pairwise_iff_getElem.mpr fun i j hi hj z => ?_
  have a := h i _ (List.getElem?_eq_getElem hi)
  have b := h j _ (List.getElem?_eq_getElem hj)
  omega
theorem Rise.sub {l m : List Row} (h : Rise l) (s : m.Sublist l) : Rise m := List.Pairwise.sublist s h
def lastN (b : Int) (l : List Row) : Int := match l.getLast? with
  | none => b
  | some r => r.n
theorem lastN_cons {b : Int} {r : Row} {l : List Row} : lastN b (r :: l) = lastN r.n l := by
  unfold lastN
  cases e : l.getLast? with
  | none =>
    rw [List.getLast?_eq_none_iff] at e
    subst e; rfl
  | some x => rw [List.getLast?_cons, e]; rfl
theorem filter_lt {b : Int} {l : List Row} (h : ∀ r ∈ l, b < r.n) : l.filter (fun r => decide (b < r.n)) = l := List.filter_eq_self.mpr fun r hr => decide_eq_true (h r hr)
theorem hear_rise : ∀ {l : List Row} {E : EarS}, Rise l → E.hear l = ⟨lastN E.behind (l.filter fun r => decide (E.behind < r.n)), E.begun, E.rows ++ l.filter fun r => decide (E.behind < r.n)⟩
  | [], E, _ => by
    show E = ⟨E.behind, E.begun, E.rows ++ []⟩
    rw [List.append_nil]
  | r :: l, E, h => by
    have h2 := (List.pairwise_cons.mp h)
    have e : E.hear (r :: l) = (E.step r).hear l := rfl
    rw [e, hear_rise h2.2]
    unfold EarS.step
    by_cases c : E.behind < r.n
    · rw [if_pos c]
      have f2 : l.filter (fun q => decide (E.behind < q.n)) = l := filter_lt fun q hq => by have := h2.1 q hq; omega
      have f1 : l.filter (fun q => decide (r.n < q.n)) = l := filter_lt h2.1
      rw [List.filter_cons, if_pos (decide_eq_true c), f2]
      show (⟨lastN r.n (l.filter fun q => decide (r.n < q.n)), E.begun, E.rows ++ [r] ++ l.filter fun q => decide (r.n < q.n)⟩ : EarS) = _
      rw [f1, lastN_cons, List.append_assoc]; rfl
    · rw [if_neg c, List.filter_cons, if_neg (by simpa using c)]
theorem rise_ext : ∀ {l m : List Row}, Rise l → Rise m → (∀ r, r ∈ l ↔ r ∈ m) → l = m := by
  intro l m hl hm h
  have nd : ∀ {l : List Row}, Rise l → l.Nodup := fun h => List.Pairwise.imp (fun {a b} z e => by rw [e] at z; omega) h
  have p : l.Perm m := (List.perm_ext_iff_of_nodup (nd hl) (nd hm)).mpr h
  refine perm_sorted_eq (le := fun a b : Row => a.n < b.n ∨ a = b) (fun a b h1 h2 => ?_) p (List.Pairwise.imp (fun z => .inl z) hl) (List.Pairwise.imp (fun z => .inl z) hm)
  rcases h1 with h1 | h1
  · rcases h2 with h2 | h2
    · omega
    · exact h2.symm
  · exact h1
theorem lastN_ge : ∀ {l : List Row} {b : Int}, Rise l → (∀ r ∈ l, b < r.n) → b ≤ lastN b l ∧ (∀ r ∈ l, r.n ≤ lastN b l) ∧ (lastN b l = b ∨ ∃ r ∈ l, lastN b l = r.n)
  | [], b, _, _ => ⟨Int.le_refl _, fun _ z => (by cases z), .inl rfl⟩
  | r :: l, b, h, hb => by
    have p := List.pairwise_cons.mp h
    obtain ⟨a1, a2, a3⟩ := lastN_ge (l := l) (b := r.n) p.2 p.1
    rw [lastN_cons]
    have := hb r List.mem_cons_self
    refine ⟨by omega, fun q hq => ?_, ?_⟩
    · rcases List.mem_cons.mp hq with z | z
      · rw [z]; exact a1
      · exact a2 q z
    · rcases a3 with a3 | ⟨q, hq, a3⟩
      · exact .inr ⟨r, List.mem_cons_self, a3⟩
      · exact .inr ⟨q, List.mem_cons_of_mem _ hq, a3⟩
/-- a list that rises: what stands ahead of a kept one is kept -/
theorem take_down {l : List Row} (h : Rise l) {j : Nat} {a b : Row} (hb : b ∈ l.take j) (ha : a ∈ l) (le : a.n ≤ b.n) : a ∈ l.take j := by
  obtain ⟨i, hi, ei⟩ := List.mem_iff_getElem.mp hb
  obtain ⟨i2, hi2, ei2⟩ := List.mem_iff_getElem.mp ha
  rw [List.length_take] at hi
  rw [List.getElem_take] at ei
  have : i2 ≤ i := by
    rcases Nat.lt_or_ge i i2 with z | z
    · have := List.pairwise_iff_getElem.mp h i i2 (by omega) hi2 z
      rw [ei, ei2] at this
      omega
    · exact z
  exact List.mem_iff_getElem.mpr ⟨i2, by rw [List.length_take]; omega, by rw [List.getElem_take]; exact ei2⟩
theorem take_all {l : List Row} {j : Nat} (h : (l.take j).length < j) : l.take j = l := by
  rw [List.length_take] at h
  exact List.take_of_length_le (by omega)
structure LineS where
  l : Addr
  FL : List Addr
  pre : Str
  px : Tx 1000 pre
  start : Int
  E : EarS
  x : WatS
/-- of all changes those that the line wants -/
def wants (rows : List Row) (pre : Str) (start : Int) : List Row := rows.filter fun r => decide (start ≤ r.n) && begins r.k pre
structure LInv (rows : List Row) (g : Int) (s : LineS) : Prop where
  pr : s.x.pre = s.pre
  th : s.x.told = s.x.had
  gh : g ≤ s.x.had
  sh : s.start - 1 ≤ s.x.had
  hr : s.x.had ≤ rows.length
  sb : s.start - 1 ≤ s.E.behind
  br : s.E.behind ≤ rows.length
  er : s.E.rows = (wants rows s.pre s.start).filter fun r => decide (r.n ≤ s.E.behind)
  bh : ∀ r ∈ wants rows s.pre s.start, r.n ≤ s.x.had → r.n ≤ s.E.behind
theorem wants_rise {rows : List Row} {pre : Str} {start : Int} (h : Num 0 rows) : Rise (wants rows pre start) := h.rise.sub List.filter_sublist
theorem num_le {rows : List Row} (h : Num 0 rows) {r : Row} (hr : r ∈ rows) : 1 ≤ r.n ∧ r.n ≤ rows.length := by
  obtain ⟨i, hi, e⟩ := List.mem_iff_getElem.mp hr
  have := h i r (by rw [List.getElem?_eq_getElem hi, e])
  omega
/-- a line that begins -/
theorem LInv.new {rows : List Row} {g : Int} {l : Addr} {FL : List Addr} {pre : Str} {px : Tx 1000 pre} {start : Int} {b : List SS} (h1 : g + 1 ≤ start) (h2 : start ≤ rows.length + 1) : LInv rows g ⟨l, FL, pre, px, start, ⟨start - 1, b, []⟩, ⟨pre, px, start - 1, start - 1⟩⟩ := by
  refine ⟨rfl, rfl, by show g ≤ start - 1; omega, Int.le_refl _, by show start - 1 ≤ (rows.length : Int); omega, Int.le_refl _, by show start - 1 ≤ (rows.length : Int); omega, ?_, fun r _ z => z⟩
  show [] = (wants rows pre start).filter fun r => decide (r.n ≤ start - 1)
  refine (List.filter_eq_nil_iff.mpr fun r hr => ?_).symm
  have := (List.mem_filter.mp hr).2
  rw [Bool.and_eq_true, decide_eq_true_eq] at this
  rw [decide_eq_true_eq]
  omega
/-- more changes -/
theorem LInv.grow {rows ext : List Row} {g : Int} {s : LineS} (h : LInv rows g s) (nm : Num 0 (rows ++ ext)) : LInv (rows ++ ext) g s := by
  have lr : ((rows ++ ext).length : Int) = rows.length + ext.length := by rw [List.length_append]; omega
  have hr := h.hr
  have br := h.br
  have ew : wants (rows ++ ext) s.pre s.start = wants rows s.pre s.start ++ wants ext s.pre s.start := List.filter_append ..
  have big : ∀ r ∈ wants ext s.pre s.start, (rows.length : Int) < r.n := fun r hr => by
    obtain ⟨i, hi, e⟩ := List.mem_iff_getElem.mp (List.mem_filter.mp hr).1
    have := nm (rows.length + i) r (by rw [List.getElem?_append_right (by omega), Nat.add_sub_cancel_left, List.getElem?_eq_getElem hi, e])
    omega
  refine ⟨h.pr, h.th, h.gh, h.sh, by omega, h.sb, by omega, ?_, fun r hr' z => ?_⟩
  · rw [ew, List.filter_append, ← h.er]
    have : (wants ext s.pre s.start).filter (fun r => decide (r.n ≤ s.E.behind)) = [] := List.filter_eq_nil_iff.mpr fun r hr' => by
      have := big r hr'
      rw [decide_eq_true_eq]; omega
    rw [this, List.append_nil]
  · rw [ew] at hr'
    rcases List.mem_append.mp hr' with y | y
    · exact h.bh r y z
    · have := big r y; omega
theorem LInv.trim {rows : List Row} {g g' : Int} {s : LineS} (h : LInv rows g s) (z : g' ≤ s.x.had) : LInv rows g' s := { h with gh := z }
theorem pulled_eq {R : RoomS} {rows : List Row} {g : Int} {s : LineS} {most : Int} (J : Jl R.G ⟨rows, g⟩) (h : LInv rows g s) : pulled R s.x most = ((wants rows s.pre s.start).filter fun r => decide (s.x.had < r.n)).take most.toNat := by
  have g0 : 0 ≤ g := J.g0
  have gh := h.gh
  have sh := h.sh
  have e1 : R.G.rows.filter (fun r => decide (s.x.had < r.n) && begins r.k s.pre) = rows.filter (fun r => decide (s.x.had < r.n) && begins r.k s.pre) := by
    rw [J.rw']
    conv => rhs; rw [← List.take_append_drop g.toNat rows]
    have z : (rows.take g.toNat).filter (fun r => decide (s.x.had < r.n) && begins r.k s.pre) = [] := by
      refine List.filter_eq_nil_iff.mpr fun r hr => ?_
      obtain ⟨i, hi, e⟩ := List.mem_iff_getElem.mp hr
      rw [List.length_take] at hi
      rw [List.getElem_take] at e
      have e2 : rows[i]? = some r := by rw [List.getElem?_eq_getElem (by omega), e]
      have := J.nm i r e2
      rw [decide_eq_false (by omega)]
      simp
    rw [List.filter_append, z, List.nil_append]
  have e2 : (wants rows s.pre s.start).filter (fun r => decide (s.x.had < r.n)) = rows.filter (fun r => decide (s.x.had < r.n) && begins r.k s.pre) := by
    unfold wants
    rw [List.filter_filter]
    refine List.filter_congr fun r hr => ?_
    by_cases c : s.x.had < r.n
    · rw [decide_eq_true c, decide_eq_true (show s.start ≤ r.n by omega)]; simp
    · rw [decide_eq_false c]; simp
  unfold pulled LogS.wanted LogS.wantedAll
  rw [h.pr, h.th, e1, e2]
/-- what a turn does -/
theorem LInv.turn {R : RoomS} {rows : List Row} {g : Int} {s : LineS} {most luck : Int} (J : Jl R.G ⟨rows, g⟩) (h : LInv rows g s) (m0 : 0 ≤ most) :
    ∃ fr, s.E.hear (cutL luck (pulled R s.x most)) = ⟨lastN s.E.behind fr, s.E.begun, s.E.rows ++ fr⟩ ∧ (fr.length : Int) ≤ most ∧ Rise (s.E.rows ++ fr) ∧ LInv rows g { s with E := ⟨lastN s.E.behind fr, s.E.begun, s.E.rows ++ fr⟩, x := lineX R s.x most luck } ∧ (luck = 0 → (rows.length : Int) < most → (lineX R s.x most luck).had = rows.length) := by
  obtain ⟨n, rfl⟩ := Int.eq_ofNat_of_zero_le m0
  have eP := pulled_eq (most := n) J h
  rw [Int.toNat_natCast] at eP
  have rZ := wants_rise (pre := s.pre) (start := s.start) (show Num 0 rows from J.nm)
  have rW : Rise ((wants rows s.pre s.start).filter fun r => decide (s.x.had < r.n)) := rZ.sub List.filter_sublist
  generalize eW : (wants rows s.pre s.start).filter (fun r => decide (s.x.had < r.n)) = Wt at *
  have mW : ∀ r, r ∈ Wt ↔ r ∈ wants rows s.pre s.start ∧ s.x.had < r.n := fun r => by rw [← eW, List.mem_filter, decide_eq_true_eq]
  obtain ⟨j, eC, jn⟩ : ∃ j, cutL luck (pulled R s.x n) = Wt.take j ∧ j ≤ n := by
    unfold cutL
    rw [eP]
    split
    · exact ⟨0, by rw [List.take_zero], Nat.zero_le _⟩
    · split
      · rw [List.take_take, List.length_take]
        exact ⟨_, rfl, by omega⟩
      · exact ⟨n, rfl, Nat.le_refl _⟩
  have rC : Rise (Wt.take j) := rW.sub (List.take_sublist _ _)
  have hear := hear_rise (E := s.E) rC
  rw [eC, hear]
  generalize eF : (Wt.take j).filter (fun r => decide (s.E.behind < r.n)) = fr at *
  have mF : ∀ r, r ∈ fr ↔ r ∈ Wt.take j ∧ s.E.behind < r.n := fun r => by rw [← eF, List.mem_filter, decide_eq_true_eq]
  have rF : Rise fr := by rw [← eF]; exact rC.sub List.filter_sublist
  obtain ⟨l1, l2, l3⟩ := lastN_ge rF fun r hr => ((mF r).mp hr).2
  have inZ : ∀ r ∈ fr, r ∈ wants rows s.pre s.start := fun r hr => ((mW r).mp (List.mem_of_mem_take ((mF r).mp hr).1)).1
  have inR : ∀ r ∈ wants rows s.pre s.start, 1 ≤ r.n ∧ r.n ≤ rows.length := fun r hr => num_le J.nm (List.mem_filter.mp hr).1
  have lb : lastN s.E.behind fr ≤ rows.length := by
    rcases l3 with l3 | ⟨r, hr, l3⟩
    · rw [l3]; exact h.br
    · rw [l3]; exact (inR r (inZ r hr)).2
  have rE : Rise s.E.rows := by rw [h.er]; exact rZ.sub List.filter_sublist
  have mE : ∀ r, r ∈ s.E.rows ↔ r ∈ wants rows s.pre s.start ∧ r.n ≤ s.E.behind := fun r => by rw [h.er, List.mem_filter, decide_eq_true_eq]
  have rA : Rise (s.E.rows ++ fr) := List.pairwise_append.mpr ⟨rE, rF, fun a ha b hb => by have := ((mE a).mp ha).2; have := ((mF b).mp hb).2; omega⟩
  have hl : R.G.last = rows.length := J.last
  have key : s.E.rows ++ fr = (wants rows s.pre s.start).filter fun r => decide (r.n ≤ lastN s.E.behind fr) := by
    refine rise_ext rA (rZ.sub List.filter_sublist) fun r => ?_
    rw [List.mem_append, List.mem_filter, decide_eq_true_eq, mE]
    constructor
    · rintro (⟨a, b⟩ | a)
      · exact ⟨a, by omega⟩
      · exact ⟨inZ r a, l2 r a⟩
    · rintro ⟨a, b⟩
      by_cases c : r.n ≤ s.E.behind
      · exact .inl ⟨a, c⟩
      · refine .inr ((mF r).mpr ⟨?_, by omega⟩)
        rcases l3 with l3 | ⟨q, hq, l3⟩
        · omega
        · have : s.x.had < r.n := by
            rcases Int.lt_or_le s.x.had r.n with z | z
            · exact z
            · exact absurd (h.bh r a z) c
          exact take_down rW ((mF q).mp hq).1 ((mW r).mpr ⟨a, this⟩) (by omega)
  have lenf : (fr.length : Int) ≤ (n : Int) := by
    have : fr.length ≤ (Wt.take j).length := by rw [← eF]; exact List.length_filter_le _ _
    rw [List.length_take] at this
    omega
  have heard : ∀ r ∈ Wt.take j, r.n ≤ lastN s.E.behind fr := fun r hr => by
    by_cases c : s.E.behind < r.n
    · exact l2 r ((mF r).mpr ⟨hr, c⟩)
    · omega
  refine ⟨fr, rfl, lenf, rA, ?_, fun z1 z2 => ?_⟩
  · by_cases c : luck = 0
    · have ex : lineX R s.x n luck = { s.x with had := toldBy R s.x n, told := toldBy R s.x n } := by unfold lineX; rw [if_pos c]
      have eC2 : Wt.take j = pulled R s.x n := by rw [← eC]; unfold cutL; rw [if_neg (by omega), if_neg (by omega)]
      have td : s.x.had ≤ toldBy R s.x n ∧ toldBy R s.x n ≤ rows.length ∧ ∀ r ∈ Wt, r.n ≤ toldBy R s.x n → r ∈ Wt.take j := by
        unfold toldBy
        split
        · rename_i c2
          rw [hl]
          refine ⟨h.hr, Int.le_refl _, fun r hr _ => ?_⟩
          rw [eC2, eP, take_all (by rw [← eP]; omega)]
          exact hr
        · split
          · rename_i c2 e2
            rw [List.getLast?_eq_none_iff, eP] at e2
            rw [h.th]
            refine ⟨Int.le_refl _, h.hr, fun r hr z => ?_⟩
            have := ((mW r).mp hr).2
            omega
          · rename_i c2 q e2
            have hq : q ∈ Wt.take j := by rw [eC2]; exact List.mem_of_getLast? e2
            have hq2 := (mW q).mp (List.mem_of_mem_take hq)
            exact ⟨by omega, (inR q hq2.1).2, fun r hr z => take_down rW hq hr z⟩
      refine ⟨?_, ?_, ?_, ?_, ?_, ?_, lb, key, fun r hr z => ?_⟩
      · show (lineX R s.x n luck).pre = _
        rw [ex]; exact h.pr
      · show (lineX R s.x n luck).told = (lineX R s.x n luck).had
        rw [ex]
      · show g ≤ (lineX R s.x n luck).had
        rw [ex]; exact Int.le_trans h.gh td.1
      · show s.start - 1 ≤ (lineX R s.x n luck).had
        rw [ex]; exact Int.le_trans h.sh td.1
      · show (lineX R s.x n luck).had ≤ _
        rw [ex]; exact td.2.1
      · show s.start - 1 ≤ lastN s.E.behind fr
        exact Int.le_trans h.sb l1
      · show r.n ≤ lastN s.E.behind fr
        have hr : r ∈ wants rows s.pre s.start := hr
        have z : r.n ≤ (lineX R s.x n luck).had := z
        rw [ex] at z
        have z : r.n ≤ toldBy R s.x n := z
        rcases Int.lt_or_le s.x.had r.n with y | y
        · exact heard r (td.2.2 r ((mW r).mpr ⟨hr, y⟩) z)
        · exact Int.le_trans (h.bh r hr y) l1
    · have ex : lineX R s.x n luck = { s.x with told := s.x.had } := by unfold lineX; rw [if_neg c]
      refine ⟨?_, ?_, ?_, ?_, ?_, ?_, lb, key, fun r hr z => ?_⟩
      · show (lineX R s.x n luck).pre = _
        rw [ex]; exact h.pr
      · show (lineX R s.x n luck).told = (lineX R s.x n luck).had
        rw [ex]
      · show g ≤ (lineX R s.x n luck).had
        rw [ex]; exact h.gh
      · show s.start - 1 ≤ (lineX R s.x n luck).had
        rw [ex]; exact h.sh
      · show (lineX R s.x n luck).had ≤ _
        rw [ex]; exact h.hr
      · show s.start - 1 ≤ lastN s.E.behind fr
        exact Int.le_trans h.sb l1
      · have z : r.n ≤ (lineX R s.x n luck).had := z
        rw [ex] at z
        exact Int.le_trans (h.bh r hr z) l1
  · unfold lineX
    rw [if_pos z1]
    show toldBy R s.x n = rows.length
    unfold toldBy
    have lp : (pulled R s.x n).length ≤ rows.length := by
      have s1 : (pulled R s.x n).Sublist R.G.rows := by
        unfold pulled LogS.wanted LogS.wantedAll
        exact (List.take_sublist _ _).trans List.filter_sublist
      have : R.G.rows.length ≤ rows.length := J.len
      exact Nat.le_trans s1.length_le this
    rw [if_pos (by omega), hl]
/-- an ear that has had all -/
theorem LInv.all {rows : List Row} {g : Int} {s : LineS} (h : LInv rows g s) (nm : Num 0 rows) (z : s.x.had = rows.length) : s.E.rows = wants rows s.pre s.start := by
  rw [h.er]
  refine List.filter_eq_self.mpr fun r hr => decide_eq_true ?_
  exact h.bh r hr (by rw [z]; exact (num_le nm (List.mem_filter.mp hr).1).2)
end LW

set_option maxHeartbeats 4000000
namespace LW
open PySem PySem.Spec PyProof.Rows L2
local macro_rules | `(tactic| wtm_at "vk") => `(tactic| first
  | assumption
  | with_reducible exact rv_mf_given
  | with_reducible exact rv_mf_free
  | exact valV_sv (by assumption)
  | exact valV_iv (by assumption)
  | fail)
local macro_rules | `(tactic| wtm_at "pk") => `(tactic| first
  | with_reducible exact putK_iv
  | with_reducible exact dropK_ik
  | with_reducible exact dropK_sk
  | with_reducible exact rp_mf_given
  | with_reducible exact rp_mf_free
  | exact putK_sv
  | assumption
  | fail)
local macro_rules | `(tactic| wtm_at "rm") => `(tactic| first
  | with_reducible exact rm_mf
  | exact rfl
  | fail)
local macro_rules | `(tactic| wtm_at "rl") => `(tactic| first
  | with_reducible exact rl_mf
  | with_reducible assumption
  | fail)
local macro_rules | `(tactic| wtm_at "lk") => `(tactic| with_reducible first
  | exact lk_Ear_behind
  | exact lk_Ear_begun
  | exact lk_Ear_rows
  | exact lk_Line_room
  | exact lk_Line_watcher
  | exact lk_Line_ear
  | exact lk_Leases_given
  | exact lk_Leases_spans
  | exact lk_Leases_ends
  | exact lk_Log_rows
  | exact lk_Log_gone
  | exact lk_Watcher_prefix
  | exact lk_Watcher_had
  | exact lk_Watcher_told
  | exact lk_Room_now
  | exact lk_Room_leases
  | exact lk_Room_log
  | exact lk_Room_kept
  | exact lk_Room_watchers
  | exact lk_Room_met
  | fail)
local macro_rules | `(tactic| wtm_at "lm") => `(tactic| with_reducible first
  | exact lm_Ear_hear
  | exact lm_Ear_heard
  | exact lm_Ear_state
  | exact lm_Line_turn
  | exact lm_Leases_grant
  | exact lm_Leases_need
  | exact lm_Leases_renew
  | exact lm_Leases_drop
  | exact lm_Leases_due
  | exact lm_Log_note
  | exact lm_Log_last
  | exact lm_Log_first
  | exact lm_Log_wanted
  | exact lm_Log_forget
  | exact lm_Room_grant
  | exact lm_Room_renew
  | exact lm_Room_drop
  | exact lm_Room_wait
  | exact lm_Room_free
  | exact lm_Room_put
  | exact lm_Room_cut
  | exact lm_Room_value
  | exact lm_Room_holder
  | exact lm_Room_pairs
  | exact lm_Room_last
  | exact lm_Room_first
  | exact lm_Room_watch
  | exact lm_Room_need
  | exact lm_Room_pull
  | exact lm_Room_confirm
  | exact lm_Room_broken
  | exact lm_Room_leave
  | exact lm_Room_trim
  | fail)
local macro_rules | `(tactic| wtm_at "pt") => `(tactic| with_reducible first
  | exact pt_Ear_behind
  | exact pt_Ear_begun
  | exact pt_Ear_rows
  | exact pi_Ear_0
  | exact pi_Ear_1
  | exact pi_Ear_2
  | exact pt_Line_room
  | exact pt_Line_watcher
  | exact pt_Line_ear
  | exact pi_Line_0
  | exact pi_Line_1
  | exact pi_Line_2
  | exact pt_Leases_given
  | exact pt_Leases_spans
  | exact pt_Leases_ends
  | exact pi_Leases_0
  | exact pi_Leases_1
  | exact pi_Leases_2
  | exact pt_Log_rows
  | exact pt_Log_gone
  | exact pi_Log_0
  | exact pi_Log_1
  | exact pt_Watcher_prefix
  | exact pt_Watcher_had
  | exact pt_Watcher_told
  | exact pi_Watcher_0
  | exact pi_Watcher_1
  | exact pi_Watcher_2
  | exact pt_Room_now
  | exact pt_Room_leases
  | exact pt_Room_log
  | exact pt_Room_kept
  | exact pt_Room_watchers
  | exact pt_Room_met
  | exact pi_Room_0
  | exact pi_Room_1
  | exact pi_Room_2
  | exact pi_Room_3
  | exact pi_Room_4
  | exact pi_Room_5
  | fail)
local macro_rules | `(tactic| wtm_at "lz") => `(tactic| with_reducible first
  | exact lz_Ear
  | exact lz_Line
  | exact lz_Leases
  | exact lz_Log
  | exact lz_Watcher
  | exact lz_Room
  | (simp only [List.length_cons, List.length_nil]; decide)
  | exact (by decide)
  | fail)
local macro_rules | `(tactic| wtm_at "hf") => `(tactic| first
  | assumption
  | (refine' hf_s ?hs ?hx; (case hs => assumption); (case hx => wtm_at "hf"))
  | (refine' hf_n ?hs ?hx ?ne; (case hs => assumption); (case hx => wtm_at "hf"); (case ne => wtm_at "ne"))
  | (refine' hf_e ?hs ?hx ?hy; (case hs => assumption); (case hx => wtm_at "hf"); (case hy => wtm_at "nin"))
  | fail)
local macro_rules | `(tactic| wtm_at "ne") => `(tactic| first
  | assumption
  | (apply Ne.symm; assumption)
  | (refine' ne_of_none ?hx ?hy; (case hy => assumption); (case hx => wtm_at "hf"))
  | (refine' (ne_of_none ?hx ?hy).symm; (case hy => assumption); (case hx => wtm_at "hf"))
  | (refine' ne_of ?hx ?hy ?hz; (case hx => assumption); (case hy => assumption); (case hz => intro z; cases z))
  | fail)
local macro_rules | `(tactic| wtm_at "nin") => `(tactic| first
  | assumption
  | exact notin_nil
  | (refine' notin_cons ?hx ?hy; (case hx => wtm_at "ne"); (case hy => wtm_at "nin"))
  | fail)
local macro_rules | `(tactic| wtm_at "mem") => `(tactic| first
  | assumption
  | exact List.mem_cons_self
  | (refine' List.mem_cons_of_mem _ ?hx; (case hx => wtm_at "mem"))
  | fail)
local macro_rules | `(tactic| wtm_at "wr") => `(tactic| first
  | exact Or.inr (by assumption)
  | exact Or.inl (by wtm_at "mem")
  | fail)
local macro_rules | `(tactic| wtm_at "lv") => `(tactic| first
  | assumption
  | exact Live.nil
  | (refine' Live.cons ?hx ?hy; (case hx => wtm_at "hf"); (case hy => wtm_at "lv"))
  | fail)
local macro_rules | `(tactic| wtm_at "run") => `(tactic| first
  | assumption
  | (refine' Run.same ?hx ?hy; (case hy => assumption); (case hx => wtm_at "run"))
  | fail)
local macro_rules | `(tactic| wtm_at "sq") => `(tactic| first
  | assumption
  | (refine' Run.seq ?hx ?hy; (case hx => assumption); (case hy => assumption))
  | (refine' SqL.of ?hx; (case hx => wtm_at "hf"))
  | (refine' Same.seq ?hx ?hy; (case hx => assumption); (case hy => wtm_at "sq"))
  | (refine' Ext.seqL ?hx ?hz ?hy; (case hx => assumption); (case hy => wtm_at "sq"); (case hz => wtm_at "nin"))
  | fail)
local macro_rules | `(tactic| wtm_at "st") => `(tactic| first
  | assumption
  | (refine' SqT.of ?hx; (case hx => wtm_at "hf"))
  | fail)
local macro_rules | `(tactic| wtm_at "ix") => `(tactic| first
  | assumption
  | exact rfl
  | fail)
local macro_rules | `(tactic| wtm_at "sz") => `(tactic| first
  | wtm_at "rl"
  | with_reducible assumption
  | (rw [ik_len]; wtm_at "sz")
  | (rw [sk_len]; wtm_at "sz")
  | exact smallM (by assumption)
  | exact smallM (by omega)
  | exact smallM (by simp only [List.length_cons, List.length_nil, List.length_append, List.length_map]; omega)
  | fail)
local macro_rules | `(tactic| wtm_at "tx") => `(tactic| first
  | assumption
  | ((with_reducible refine' Tx.app ?hx ?hy); (case hx => wtm_at "tx"); (case hy => wtm_at "tx"))
  | ((with_reducible refine' Tx.cut ?hx); (case hx => wtm_at "tx"))
  | with_reducible exact Tx.nil
  | fail)
local macro_rules | `(tactic| wtm_at "k") => `(tactic| first
  | with_reducible refine k_seq ?_
  | with_reducible refine k_next ?_
  | with_reducible refine k_asg ?_
  | with_reducible refine k_ret ?_
  | with_reducible refine k_retN ?_
  | with_reducible refine k_asgS ?_
  | ((with_reducible refine' l_setL ?hr ?hx ?he ?h2 ?hw ?_); (case hr => wtm_at "run"); (case hx => wtm_at "hf"); (case he => exact rfl); (case h2 => exact rfl); (case hw => wtm_at "wr"); intro _ _ _ _)
  | with_reducible refine k_minD ?_
  | with_reducible refine k_drop ?_
  | with_reducible refine k_ifS ?_
  | ((with_reducible refine' k_var ?hx ?_); (case hx => exact rfl))
  | with_reducible refine k_c ?_
  | with_reducible refine k_negc ?_
  | with_reducible refine k_neg ?_
  | with_reducible refine l_neg ?_
  | with_reducible refine k_op ?_
  | with_reducible refine k_cb ?_
  | with_reducible refine k_nil ?_
  | with_reducible refine k_cons ?_
  | with_reducible refine k_test ?_
  | with_reducible refine k_B ?_
  | with_reducible refine k_not ?_
  | with_reducible refine k_and ?_
  | with_reducible refine k_or ?_
  | with_reducible refine k_notV ?_
  | with_reducible refine k_andV ?_
  | with_reducible refine k_orV ?_
  | with_reducible refine k_bl ?_
  | with_reducible refine k_add ?_
  | with_reducible refine k_sub ?_
  | ((with_reducible refine' k_mod ?hx ?_); (case hx => first | decide | omega))
  | ((with_reducible refine' k_div ?hx ?_); (case hx => first | exact ⟨by decide, by decide⟩ | exact ⟨by omega, by omega⟩))
  | ((with_reducible refine' k_mul ?hx ?_); (case hx => first | exact Or.inl ⟨by decide, by decide⟩ | exact Or.inr ⟨by decide, by decide⟩ | exact Or.inl ⟨by omega, by omega⟩))
  | with_reducible refine k_chain ?_
  | with_reducible refine k_p6 ?_
  | with_reducible refine k_p9 ?_
  | with_reducible refine k_p12 ?_
  | with_reducible refine k_p13 ?_
  | with_reducible refine k_p18 ?_
  | with_reducible refine k_p30 ?_
  | with_reducible refine k_lt ?_
  | with_reducible refine k_le ?_
  | with_reducible refine k_gt ?_
  | with_reducible refine k_ge ?_
  | with_reducible refine k_eq ?_
  | with_reducible refine k_ne ?_
  | with_reducible refine k_seqS ?_
  | with_reducible refine k_neS ?_
  | with_reducible refine k_neB ?_
  | with_reducible refine k_isN ?_
  | with_reducible refine k_noN ?_
  | with_reducible refine k_fld ?_
  | ((with_reducible refine' l_fld ?hx ?hy ?_); (case hx => wtm_at "hf"); (case hy => wtm_at "lk"))
  | with_reducible refine k_fldS ?_
  | ((with_reducible refine' l_fldS ?hr ?hx ?hz ?hy ?hw ?_); (case hr => wtm_at "run"); (case hx => wtm_at "hf"); (case hy => wtm_at "pt"); (case hz => wtm_at "lz"); (case hw => wtm_at "wr"); intro _ _ _ _)
  | ((with_reducible refine' l_new ?hr ?_); (case hr => wtm_at "run"); intro _ _ _ _ _ _ _ _)
  | with_reducible refine k_append ?_
  | ((with_reducible refine' l_tyL ?hx ?_); (case hx => wtm_at "hf"))
  | ((with_reducible refine' l_ins ?hx ?hy ?_); (case hx => wtm_at "hf"); (case hy => wtm_at "lm"))
  | with_reducible refine k_methS ?_
  | with_reducible refine k_methG ?_
  | with_reducible refine k_makeG ?_
  | with_reducible refine k_meth0 ?_
  | with_reducible refine k_callS ?_
  | with_reducible refine k_callE ?_
  | with_reducible refine k_dget ?_
  | with_reducible refine k_din ?_
  | with_reducible refine k_dnotin ?_
  | with_reducible refine k_dput ?_
  | with_reducible refine k_dpop ?_
  | with_reducible refine k_dget2 ?_
  | with_reducible refine k_tup ?_
  | with_reducible refine k_lst ?_
  | with_reducible refine k_dnew ?_
  | ((with_reducible refine' l_tup ?hx ?_); (case hx => simp only [List.length_cons, List.length_nil]; decide))
  | ((with_reducible refine' l_lst ?hx ?_); (case hx => simp only [List.length_cons, List.length_nil]; decide))
  | ((with_reducible refine' l_isD ?hx ?_); (case hx => wtm_at "hf"))
  | ((with_reducible refine' l_dinI ?hx ?_); (case hx => wtm_at "hf"))
  | ((with_reducible refine' l_dinS ?hx ?_); (case hx => wtm_at "hf"))
  | ((with_reducible refine' l_dnotinI ?hx ?_); (case hx => wtm_at "hf"))
  | ((with_reducible refine' l_dnotinS ?hx ?_); (case hx => wtm_at "hf"))
  | ((with_reducible refine' l_dputI ?hr ?hx ?hz ?hy ?hw ?_); (case hr => wtm_at "run"); (case hx => wtm_at "hf"); (case hy => wtm_at "pk"); (case hz => wtm_at "sz"); (case hw => wtm_at "wr"); intro _ _ _ _)
  | ((with_reducible refine' l_dputS ?hr ?hx ?hz ?hy ?hw ?_); (case hr => wtm_at "run"); (case hx => wtm_at "hf"); (case hy => wtm_at "pk"); (case hz => wtm_at "sz"); (case hw => wtm_at "wr"); intro _ _ _ _)
  | ((with_reducible refine' l_dpopI ?hr ?hx ?hz ?hy ?hw ?_); (case hr => wtm_at "run"); (case hx => wtm_at "hf"); (case hy => wtm_at "pk"); (case hz => wtm_at "vk"); (case hw => wtm_at "wr"); intro _ _ _ _)
  | ((with_reducible refine' l_dpopS ?hr ?hx ?hz ?hy ?hw ?_); (case hr => wtm_at "run"); (case hx => wtm_at "hf"); (case hy => wtm_at "pk"); (case hz => wtm_at "vk"); (case hw => wtm_at "wr"); intro _ _ _ _)
  | ((with_reducible refine' l_dgetI ?hx ?hz ?_); (case hx => wtm_at "hf"); (case hz => wtm_at "vk"))
  | ((with_reducible refine' l_dgetS ?hx ?hz ?_); (case hx => wtm_at "hf"); (case hz => wtm_at "vk"))
  | ((with_reducible refine' l_dgetIF ?hx ?hz ?_); (case hx => wtm_at "hf"); (case hz => wtm_at "vk"))
  | ((with_reducible refine' l_dgetSF ?hx ?hz ?_); (case hx => wtm_at "hf"); (case hz => wtm_at "vk"))
  | ((with_reducible refine' l_dgetZ ?hx ?hz ?_); (case hx => wtm_at "hf"); (case hz => wtm_at "vk"))
  | ((with_reducible refine' k_disp ?hr ?_); (case hr => wtm_at "run"); intro _ _ _ _ _ _ _ _)
  | with_reducible refine k_pcons ?_
  | with_reducible refine k_pnil ?_
  | ((with_reducible refine' l_disp ?hr ?hx ?hu ?hv ?hy ?hw ?_); (case hr => wtm_at "run"); (case hx => wtm_at "hf"); (case hu => exact rfl); (case hv => simp only [List.length_map, List.length_cons, List.length_nil]; decide); (case hy => wtm_at "rm"); (case hw => wtm_at "wr"); intro _ _ _ _)
  | ((with_reducible refine' l_append ?hr ?hx ?hz ?hw ?_); (case hr => wtm_at "run"); (case hx => wtm_at "hf"); (case hz => wtm_at "sz"); (case hw => wtm_at "wr"); intro _ _ _ _)
  | ((with_reducible refine' l_isEt ?hx ?_); (case hx => first | exact isD (ExcK.kit (by assumption) _ (by wtm_at "mem") _ (by wtm_at "mem")) | exact isC (ExcK.kit (by assumption) _ (by wtm_at "mem") _ (by wtm_at "mem")) (by decide)))
  | ((with_reducible refine' l_isEV ?hx ?_); (case hx => exact ExcK.kitV (by assumption) _ (by wtm_at "mem")))
  | ((with_reducible refine' l_isiI ?hx ?_); (case hx => first | rfl | assumption))
  | ((with_reducible refine' l_isiB ?hx ?_); (case hx => first | rfl | assumption))
  | with_reducible refine l_isiSS ?_
  | ((with_reducible refine' l_isiS ?hx ?_); (case hx => first | rfl | assumption))
  | ((with_reducible refine' l_isiL ?hx ?_); (case hx => wtm_at "hf"))
  | ((with_reducible refine' l_isiO ?hx ?hy ?hz ?_); (case hx => wtm_at "hf"); (case hy => assumption); (case hz => assumption))
  | ((with_reducible refine' l_isiT ?hx ?_); (case hx => wtm_at "hf"))
  | ((with_reducible refine' l_lenL ?hx ?_); (case hx => wtm_at "sq"))
  | ((with_reducible refine' l_lenT ?hx ?_); (case hx => wtm_at "st"))
  | ((with_reducible refine' l_lenDK ?hx ?_); (case hx => wtm_at "hf"))
  | ((with_reducible refine' l_ixL ?hx ?hy ?_); (case hx => wtm_at "sq"); (case hy => wtm_at "ix"))
  | ((with_reducible refine' l_ixT ?hx ?hy ?_); (case hx => wtm_at "st"); (case hy => wtm_at "ix"))
  | with_reducible refine k_m1 ?_
  | with_reducible refine l_strX ?_
  | with_reducible refine l_sw ?_
  | ((with_reducible refine' x_addS ?hx ?hy ?hz ?_); (case hx => wtm_at "tx"); (case hy => wtm_at "tx"); (case hz => decide))
  | ((with_reducible refine' x_slS ?hx ?hz ?_); (case hx => wtm_at "tx"); (case hz => decide))
  | ((with_reducible refine' x_lenX ?hx ?hz ?_); (case hx => wtm_at "tx"); (case hz => decide))
  | with_reducible refine l_max ?_
  | with_reducible refine l_min ?_
  | with_reducible refine l_abs ?_
  | with_reducible refine k_sl ?_
  | with_reducible refine k_part ?_
  | with_reducible refine l_part ?_
  | with_reducible refine k_nopart ?_
  | with_reducible refine k_yes ?_
  | ((with_reducible refine' l_slL ?hr ?hx ?_); (case hr => wtm_at "run"); (case hx => wtm_at "sq"); intro _ _ _ _ _ _ _ _)
  | with_reducible refine k_lcL ?_
  | with_reducible refine k_lcR ?_
  | with_reducible refine k_for ?_
  | with_reducible refine k_zip ?_
  | with_reducible refine k_rng1 ?_
  | with_reducible refine k_rng2 ?_
  | with_reducible refine k_rng3 ?_
  | with_reducible refine k_makeS ?_
  | ((with_reducible refine' l_make ?hr ?_); (case hr => wtm_at "run"); intro _ _ _ _ _ _ _ _ _)
  | with_reducible refine k_ntt ?_
  | with_reducible refine k_ntf ?_
  | with_reducible refine k_clear ?_
  | ((with_reducible refine' l_clear ?hr ?hx ?hw ?_); (case hr => wtm_at "run"); (case hx => wtm_at "hf"); (case hw => wtm_at "wr"); intro _ _ _ _)
  | with_reducible refine k_ift ?_
  | with_reducible refine k_iff ?_
  | with_reducible refine g_name ?_
  | with_reducible refine k_revL ?_
  | ((with_reducible refine' l_tupL ?hx ?_); (case hx => wtm_at "sq"))
  | with_reducible refine l_intB ?_
  | ((with_reducible refine' l_rev ?hx ?_); (case hx => wtm_at "sq"))
  | ((with_reducible refine' l_gT2 ?hn ?hx ?_); (case hn => exact rfl); (case hx => wtm_at "st"))
  | ((with_reducible refine' l_listL ?hx ?_); (case hx => wtm_at "sq"))
  | ((with_reducible refine' l_listT ?hx ?_); (case hx => wtm_at "st"))
  | fail)
local macro_rules | `(tactic| wtm_at "k") => `(tactic| first
  | with_reducible refine k_wholeI ?_
  | ((with_reducible refine' k_whole ?hx ?_); (case hx => first | rfl | assumption))
  | ((with_reducible refine' k_cell ?hx ?hy ?_); (case hx => first | decide | omega | assumption); (case hy => wtm_at "sq"))
  | fail)
def vo (_ : Str) : Option Str → V
  | some s => .str s
  | none => .non
theorem putK_voS {l : List (Str × Option Str)} {k v : Str} : putK (sk vo l) (Sum.inr k : Key) (.str v) = sk vo (aput l k (some v)) := putK_sk rfl fun _ _ _ => rfl
theorem putK_voN {l : List (Str × Option Str)} {k : Str} : putK (sk vo l) (Sum.inr k : Key) .non = sk vo (aput l k none) := putK_sk rfl fun _ _ _ => rfl
local macro_rules | `(tactic| wtm_at "pk") => `(tactic| with_reducible first
  | exact putK_voS
  | exact putK_voN
  | fail)
/-- the law's record: the last lease, the keys that were put without a lease -/
def MfAt (m : Addr) (H : Hp) (G : List Addr) (gv : Int) (fm : List (Str × Option Str)) : Prop := ∃ mi, G = [m, mi] ∧ m ≠ mi ∧ H m = some (.dK (rc_mf (.int gv) (.ref mi))) ∧ H mi = some (.dK (sk vo fm))
section
variable {m : Addr} {H H' : Hp} {G X : List Addr} {gv : Int} {fm : List (Str × Option Str)}
theorem MfAt.live (h : MfAt m H G gv fm) : Live H G := by
  obtain ⟨mi, rfl, n, h1, h2⟩ := h
  exact Live.cons h1 (Live.cons h2 Live.nil)
theorem MfAt.ext (h : MfAt m H G gv fm) (e : Ext X H H') (a : Apart G X) : MfAt m H' G gv fm := by
  obtain ⟨mi, rfl, n, h1, h2⟩ := h
  exact ⟨mi, rfl, n, e.keep _ _ h1 (a _ (by simp)), e.keep _ _ h2 (a _ (by simp))⟩
end
section
variable {P : Program} {w : World} {K : PySem.W.Frag} {mg : Str → Option Value} {base : Heap}
def sp_l_did (K : PySem.W.Frag) : Sp := fun vs H Q _ => ∃ p m v F G R gv fm d, vs = [.ref p, .ref m, v] ∧ RoomAt K H p F R ∧ MfAt m H G gv fm ∧ Apart F G ∧ IsT fD H v d ∧ DTx d ∧ ROk R ∧ RSz R ∧ gv = R.L.given ∧ fm.length ≤ 900 ∧
  (R.ref d ≠ none → ∀ H', RoomAt K H' p F R → MfAt m H' G gv fm → Ext [] H H' → Q .non H') ∧
  (R.ref d = none → ∀ H', RoomAt K H' p F (R.nxt d).2 → MfAt m H' G (givenOf gv d) (freeOf fm d) → Ext (F ++ G) H H' → Q .non H')
set_option hygiene false in
local macro_rules | `(tactic| wtm_at "tst") => `(tactic| first
  | (refine k_ifd (fun z => absurd z (by decide +kernel)) fun nzz => ?_; clear nzz)
  | (refine k_ifd (fun nzz => ?_) fun z => absurd rfl z; clear nzz)
  | fail)
theorem sc_l_did : FnScope ["_law_room", "_law_m", "_law_deed_here", "_law_found"] ["_law_room", "_law_m", "_law_deed_here"] (defScope s_l_did) := ⟨rfl, rfl, rfl, by decide +kernel, rfl, by decide +kernel, by decide +kernel⟩
theorem ok_l_did (T : FX K mg) : FnOk P w K mg base (L2N.CX P w) 7 (He.ga K "_law_did") (fdAt K ("_law_did", none)) ["_law_room", "_law_m", "_law_deed_here"] (sp_l_did K) := by
  refine FunD.ok T.F_l_did sc_l_did (fun vs H Q E h => ?_) (fun cdv A outer s H vs Q E hr h => ?_)
  · (repeat (obtain ⟨_, h⟩ := h)); subst_vars; rfl
  · have hu := hu_of hr
    have hu64 := hr.units
    refine ⟨_,
      (pss_cons
        (ps_set (i := 3) sc_l_did.nd rfl (Or.inl rfl) (pe_callS (ok_l_done T) (hr.mono (j := 6) (by decide)) rfl T.g_l_done T.k_l_done T.b_l_done (fun σ => L2N.passAt tkd σ) (pa_cons (pv 0) (pa_cons (pv 2) pa_nil))))
      (pss_cons
        (ps_if (PW.pt (pw_and (pt_cmpR oSeq (pe_ix ix_tup (pv 2) pe_int (fun _ _ => rfl)) pe_str (nomark _)) (pw_and1 (pt_val (pe_callS (ok_l_whole T) (hr.mono (j := 1) (by decide)) rfl T.g_l_whole T.k_l_whole T.b_l_whole (fun σ => L2N.passAt tkd σ) (pa_cons (pv 3) pa_nil))))))
          (pss_one
            (ps_dput hu (pv 1) pe_str (pv 3) rfl))
          pss_nil)
      (pss_cons
        (ps_if (PW.pt (pw_and (pt_cmpR oSeq (pe_ix ix_tup (pv 2) pe_int (fun _ _ => rfl)) pe_str (nomark _)) (pw_and1 (pt_val (pe_callS (ok_l_whole T) (hr.mono (j := 1) (by decide)) rfl T.g_l_whole T.k_l_whole T.b_l_whole (fun σ => L2N.passAt tkd σ) (pa_cons (pv 3) pa_nil))))))
          (pss_one
            (ps_dput hu (pe_dget hu (pv 1) pe_str (fun _ _ => rfl)) (pe_ix ix_tup (pv 2) pe_int (fun _ _ => rfl)) (pe_ix ix_list (pe_lst (pa_cons (pe_ix ix_tup (pv 2) pe_int (fun _ _ => rfl)) (pa_cons pe_non pa_nil))) (pe_callTy oInt (by rfl) T.f_int boot_int (pa_cons (pe_cmpR oIne (pe_ix ix_tup (pv 2) pe_int (fun _ _ => rfl)) pe_int (nomark _)) pa_nil)) (fun _ _ => rfl)) rfl))
          pss_nil)
      (pss_one
        (ps_if (PW.pt (pw_and (pt_cmpR oSeq (pe_ix ix_tup (pv 2) pe_int (fun _ _ => rfl)) pe_str (nomark _)) (pw_and1 (pt_val (pe_callS (ok_l_whole T) (hr.mono (j := 1) (by decide)) rfl T.g_l_whole T.k_l_whole T.b_l_whole (fun σ => L2N.passAt tkd σ) (pa_cons (pv 3) pa_nil))))))
          (pss_one
            (ps_dput hu (pe_dget hu (pv 1) pe_str (fun _ _ => rfl)) (pe_ix ix_tup (pv 2) pe_int (fun _ _ => rfl)) pe_non rfl))
          pss_nil))))), ?_⟩
    obtain ⟨p, m, v, F, G, R, gv, fm, d, rfl, hR, hM, ap, ⟨t, rfl, ht⟩, dx, rok, rsz, rfl, zm, kA, kB⟩ := h
    obtain ⟨mi, rfl, nmi, h1, h2⟩ := id hM
    repeat wtm_at "k"
    refine ⟨p, F, R, _, d, rfl, hR, ⟨t, rfl, ht⟩, dx, rok, rsz, fun n hn H1 e1 => ?_, fun hn H1 hR1 e1 => ?_⟩
    · have ht1 := e1.tups _ _ ht
      have done := kA (by rw [hn]; simp) H1 (hR.ext e1 (zero _)) (hM.ext e1 (zero _)) e1
      cases d with
      | grant a0 =>
        have ht1 : H1 t = some (.tup [.str "grant", .int a0]) := ht1
        repeat wtm_at "k"
        wtm_at "tst"
        repeat wtm_at "k"
        refine k_if (fun c => by cases c) fun _ => ?_
        repeat wtm_at "k"
        wtm_at "tst"
        repeat wtm_at "k"
        wtm_at "tst"
        repeat wtm_at "k"
        exact done
      | renew a0 =>
        have ht1 : H1 t = some (.tup [.str "renew", .int a0]) := ht1
        repeat wtm_at "k"
        wtm_at "tst"
        repeat wtm_at "k"
        wtm_at "tst"
        repeat wtm_at "k"
        wtm_at "tst"
        repeat wtm_at "k"
        exact done
      | drop a0 =>
        have ht1 : H1 t = some (.tup [.str "drop", .int a0]) := ht1
        repeat wtm_at "k"
        wtm_at "tst"
        repeat wtm_at "k"
        wtm_at "tst"
        repeat wtm_at "k"
        wtm_at "tst"
        repeat wtm_at "k"
        exact done
      | wait a0 =>
        have ht1 : H1 t = some (.tup [.str "wait", .int a0]) := ht1
        repeat wtm_at "k"
        wtm_at "tst"
        repeat wtm_at "k"
        wtm_at "tst"
        repeat wtm_at "k"
        wtm_at "tst"
        repeat wtm_at "k"
        exact done
      | put a0 a1 a2 =>
        have ht1 : H1 t = some (.tup [.str "put", .str a0, .str a1, .int a2]) := ht1
        repeat wtm_at "k"
        wtm_at "tst"
        repeat wtm_at "k"
        wtm_at "tst"
        repeat wtm_at "k"
        refine k_if (fun c => by cases c) fun _ => ?_
        repeat wtm_at "k"
        wtm_at "tst"
        repeat wtm_at "k"
        exact done
      | cut a0 a1 =>
        have ht1 : H1 t = some (.tup [.str "cut", .str a0, .int a1]) := ht1
        repeat wtm_at "k"
        wtm_at "tst"
        repeat wtm_at "k"
        wtm_at "tst"
        repeat wtm_at "k"
        wtm_at "tst"
        repeat wtm_at "k"
        refine k_if (fun c => by cases c) fun _ => ?_
        repeat wtm_at "k"
        exact done
    · have ht1 := e1.tups _ _ ht
      have hM1 := hM.ext e1 ap.symm
      have mF : m ∉ F := fun z => ap m z (by simp)
      have miF : mi ∉ F := fun z => ap mi z (by simp)
      have h11 := e1.keep _ _ h1 mF
      have h21 := e1.keep _ _ h2 miF
      have x1 : ∀ {H'}, Ext [m, mi] H1 H' → Ext (F ++ [m, mi]) H H' := fun e => (e1.sub fun c hc => List.mem_append.mpr (.inl hc)).trans (e.sub fun c hc => List.mem_append.mpr (.inr hc))
      have R1 : Run [m, mi] H1 H1 := Run.start (by wtm_at "lv")
      have kB := kB hn
      cases d with
      | grant a0 =>
        have ht1 : H1 t = some (.tup [.str "grant", .int a0]) := ht1
        rw [show (R.nxt (.grant a0)).1 = .int (R.L.given + 1) from rfl]
        repeat wtm_at "k"
        wtm_at "tst"
        repeat wtm_at "k"
        wtm_at "tst"
        repeat wtm_at "k"
        wtm_at "tst"
        repeat wtm_at "k"
        rename_i H2 r2 g2 n2
        exact kB H2 (hR1.ext r2.ext fun c hc z => ap c hc z) ⟨mi, rfl, nmi, g2, by wtm_at "hf"⟩ (x1 r2.ext)
      | renew a0 =>
        have ht1 : H1 t = some (.tup [.str "renew", .int a0]) := ht1
        rw [show (R.nxt (.renew a0)).1 = .non from rfl]
        repeat wtm_at "k"
        wtm_at "tst"
        repeat wtm_at "k"
        wtm_at "tst"
        repeat wtm_at "k"
        wtm_at "tst"
        repeat wtm_at "k"
        exact kB H1 hR1 hM1 (x1 (Ext.refl _ _))
      | drop a0 =>
        have ht1 : H1 t = some (.tup [.str "drop", .int a0]) := ht1
        rw [show (R.nxt (.drop a0)).1 = .non from rfl]
        repeat wtm_at "k"
        wtm_at "tst"
        repeat wtm_at "k"
        wtm_at "tst"
        repeat wtm_at "k"
        wtm_at "tst"
        repeat wtm_at "k"
        exact kB H1 hR1 hM1 (x1 (Ext.refl _ _))
      | wait a0 =>
        have ht1 : H1 t = some (.tup [.str "wait", .int a0]) := ht1
        rw [show (R.nxt (.wait a0)).1 = .non from rfl]
        repeat wtm_at "k"
        wtm_at "tst"
        repeat wtm_at "k"
        wtm_at "tst"
        repeat wtm_at "k"
        wtm_at "tst"
        repeat wtm_at "k"
        exact kB H1 hR1 hM1 (x1 (Ext.refl _ _))
      | put a0 a1 a2 =>
        have ht1 : H1 t = some (.tup [.str "put", .str a0, .str a1, .int a2]) := ht1
        have kB : ∀ H', RoomAt K H' p F (R.nxt (.put a0 a1 a2)).2 → MfAt m H' [m, mi] R.L.given (aput fm a0 (if a2 = 0 then some a1 else none)) → Ext (F ++ [m, mi]) H H' → Q .non H' := kB
        rw [show (R.nxt (.put a0 a1 a2)).1 = .int (R.G.last + 1) from rfl]
        by_cases c0 : a2 = 0
        · have ix : atI [V.str a1, .non] (if (!decide (a2 = 0)) = true then 1 else 0) = some (.str a1) := by rw [decide_eq_true c0]; rfl
          rw [if_pos c0] at kB
          repeat wtm_at "k"
          wtm_at "tst"
          repeat wtm_at "k"
          wtm_at "tst"
          repeat wtm_at "k"
          wtm_at "tst"
          repeat wtm_at "k"
          rename_i tn H2 u1 u2 u3 r2 g2 s2 H3 r3 g3 n3
          exact kB H3 (hR1.ext r3.ext fun c hc z => ap c hc z) ⟨mi, rfl, nmi, by wtm_at "hf", g3⟩ (x1 r3.ext)
        · have ix : atI [V.str a1, .non] (if (!decide (a2 = 0)) = true then 1 else 0) = some .non := by rw [decide_eq_false c0]; rfl
          rw [if_neg c0] at kB
          repeat wtm_at "k"
          wtm_at "tst"
          repeat wtm_at "k"
          wtm_at "tst"
          repeat wtm_at "k"
          wtm_at "tst"
          repeat wtm_at "k"
          rename_i tn H2 u1 u2 u3 r2 g2 s2 H3 r3 g3 n3
          exact kB H3 (hR1.ext r3.ext fun c hc z => ap c hc z) ⟨mi, rfl, nmi, by wtm_at "hf", g3⟩ (x1 r3.ext)
      | cut a0 a1 =>
        have ht1 : H1 t = some (.tup [.str "cut", .str a0, .int a1]) := ht1
        rw [show (R.nxt (.cut a0 a1)).1 = .int (R.G.last + 1) from rfl]
        repeat wtm_at "k"
        wtm_at "tst"
        repeat wtm_at "k"
        wtm_at "tst"
        repeat wtm_at "k"
        wtm_at "tst"
        repeat wtm_at "k"
        rename_i H3 r3 g3 n3
        exact kB H3 (hR1.ext r3.ext fun c hc z => ap c hc z) ⟨mi, rfl, nmi, by wtm_at "hf", g3⟩ (x1 r3.ext)
end
end LW

set_option maxHeartbeats 4000000
namespace LW
open PySem PySem.Spec PyProof.Rows L2
local macro_rules | `(tactic| wtm_at "vk") => `(tactic| first
  | assumption
  | with_reducible exact rv_mf_given
  | with_reducible exact rv_mf_free
  | exact valV_sv (by assumption)
  | exact valV_iv (by assumption)
  | fail)
local macro_rules | `(tactic| wtm_at "pk") => `(tactic| first
  | with_reducible exact putK_iv
  | with_reducible exact dropK_ik
  | with_reducible exact dropK_sk
  | with_reducible exact rp_mf_given
  | with_reducible exact rp_mf_free
  | exact putK_sv
  | assumption
  | fail)
local macro_rules | `(tactic| wtm_at "rm") => `(tactic| first
  | with_reducible exact rm_mf
  | exact rfl
  | fail)
local macro_rules | `(tactic| wtm_at "rl") => `(tactic| first
  | with_reducible exact rl_mf
  | with_reducible assumption
  | fail)
local macro_rules | `(tactic| wtm_at "lk") => `(tactic| with_reducible first
  | exact lk_Ear_behind
  | exact lk_Ear_begun
  | exact lk_Ear_rows
  | exact lk_Line_room
  | exact lk_Line_watcher
  | exact lk_Line_ear
  | exact lk_Leases_given
  | exact lk_Leases_spans
  | exact lk_Leases_ends
  | exact lk_Log_rows
  | exact lk_Log_gone
  | exact lk_Watcher_prefix
  | exact lk_Watcher_had
  | exact lk_Watcher_told
  | exact lk_Room_now
  | exact lk_Room_leases
  | exact lk_Room_log
  | exact lk_Room_kept
  | exact lk_Room_watchers
  | exact lk_Room_met
  | fail)
local macro_rules | `(tactic| wtm_at "lm") => `(tactic| with_reducible first
  | exact lm_Ear_hear
  | exact lm_Ear_heard
  | exact lm_Ear_state
  | exact lm_Line_turn
  | exact lm_Leases_grant
  | exact lm_Leases_need
  | exact lm_Leases_renew
  | exact lm_Leases_drop
  | exact lm_Leases_due
  | exact lm_Log_note
  | exact lm_Log_last
  | exact lm_Log_first
  | exact lm_Log_wanted
  | exact lm_Log_forget
  | exact lm_Room_grant
  | exact lm_Room_renew
  | exact lm_Room_drop
  | exact lm_Room_wait
  | exact lm_Room_free
  | exact lm_Room_put
  | exact lm_Room_cut
  | exact lm_Room_value
  | exact lm_Room_holder
  | exact lm_Room_pairs
  | exact lm_Room_last
  | exact lm_Room_first
  | exact lm_Room_watch
  | exact lm_Room_need
  | exact lm_Room_pull
  | exact lm_Room_confirm
  | exact lm_Room_broken
  | exact lm_Room_leave
  | exact lm_Room_trim
  | fail)
local macro_rules | `(tactic| wtm_at "pt") => `(tactic| with_reducible first
  | exact pt_Ear_behind
  | exact pt_Ear_begun
  | exact pt_Ear_rows
  | exact pi_Ear_0
  | exact pi_Ear_1
  | exact pi_Ear_2
  | exact pt_Line_room
  | exact pt_Line_watcher
  | exact pt_Line_ear
  | exact pi_Line_0
  | exact pi_Line_1
  | exact pi_Line_2
  | exact pt_Leases_given
  | exact pt_Leases_spans
  | exact pt_Leases_ends
  | exact pi_Leases_0
  | exact pi_Leases_1
  | exact pi_Leases_2
  | exact pt_Log_rows
  | exact pt_Log_gone
  | exact pi_Log_0
  | exact pi_Log_1
  | exact pt_Watcher_prefix
  | exact pt_Watcher_had
  | exact pt_Watcher_told
  | exact pi_Watcher_0
  | exact pi_Watcher_1
  | exact pi_Watcher_2
  | exact pt_Room_now
  | exact pt_Room_leases
  | exact pt_Room_log
  | exact pt_Room_kept
  | exact pt_Room_watchers
  | exact pt_Room_met
  | exact pi_Room_0
  | exact pi_Room_1
  | exact pi_Room_2
  | exact pi_Room_3
  | exact pi_Room_4
  | exact pi_Room_5
  | fail)
local macro_rules | `(tactic| wtm_at "lz") => `(tactic| with_reducible first
  | exact lz_Ear
  | exact lz_Line
  | exact lz_Leases
  | exact lz_Log
  | exact lz_Watcher
  | exact lz_Room
  | (simp only [List.length_cons, List.length_nil]; decide)
  | exact (by decide)
  | fail)
local macro_rules | `(tactic| wtm_at "hf") => `(tactic| first
  | assumption
  | (refine' hf_s ?hs ?hx; (case hs => assumption); (case hx => wtm_at "hf"))
  | (refine' hf_n ?hs ?hx ?ne; (case hs => assumption); (case hx => wtm_at "hf"); (case ne => wtm_at "ne"))
  | (refine' hf_e ?hs ?hx ?hy; (case hs => assumption); (case hx => wtm_at "hf"); (case hy => wtm_at "nin"))
  | fail)
local macro_rules | `(tactic| wtm_at "ne") => `(tactic| first
  | assumption
  | (apply Ne.symm; assumption)
  | (refine' ne_of_none ?hx ?hy; (case hy => assumption); (case hx => wtm_at "hf"))
  | (refine' (ne_of_none ?hx ?hy).symm; (case hy => assumption); (case hx => wtm_at "hf"))
  | (refine' ne_of ?hx ?hy ?hz; (case hx => assumption); (case hy => assumption); (case hz => intro z; cases z))
  | fail)
local macro_rules | `(tactic| wtm_at "nin") => `(tactic| first
  | assumption
  | exact notin_nil
  | (refine' notin_cons ?hx ?hy; (case hx => wtm_at "ne"); (case hy => wtm_at "nin"))
  | fail)
local macro_rules | `(tactic| wtm_at "mem") => `(tactic| first
  | assumption
  | exact List.mem_cons_self
  | (refine' List.mem_cons_of_mem _ ?hx; (case hx => wtm_at "mem"))
  | fail)
local macro_rules | `(tactic| wtm_at "wr") => `(tactic| first
  | exact Or.inr (by assumption)
  | exact Or.inl (by wtm_at "mem")
  | fail)
local macro_rules | `(tactic| wtm_at "lv") => `(tactic| first
  | assumption
  | exact Live.nil
  | (refine' Live.cons ?hx ?hy; (case hx => wtm_at "hf"); (case hy => wtm_at "lv"))
  | fail)
local macro_rules | `(tactic| wtm_at "run") => `(tactic| first
  | assumption
  | (refine' Run.same ?hx ?hy; (case hy => assumption); (case hx => wtm_at "run"))
  | fail)
local macro_rules | `(tactic| wtm_at "sq") => `(tactic| first
  | assumption
  | (refine' Run.seq ?hx ?hy; (case hx => assumption); (case hy => assumption))
  | (refine' SqL.of ?hx; (case hx => wtm_at "hf"))
  | (refine' Same.seq ?hx ?hy; (case hx => assumption); (case hy => wtm_at "sq"))
  | (refine' Ext.seqL ?hx ?hz ?hy; (case hx => assumption); (case hy => wtm_at "sq"); (case hz => wtm_at "nin"))
  | fail)
local macro_rules | `(tactic| wtm_at "st") => `(tactic| first
  | assumption
  | (refine' SqT.of ?hx; (case hx => wtm_at "hf"))
  | fail)
local macro_rules | `(tactic| wtm_at "ix") => `(tactic| first
  | assumption
  | exact rfl
  | fail)
local macro_rules | `(tactic| wtm_at "sz") => `(tactic| first
  | wtm_at "rl"
  | with_reducible assumption
  | (rw [ik_len]; wtm_at "sz")
  | (rw [sk_len]; wtm_at "sz")
  | exact smallM (by assumption)
  | exact smallM (by omega)
  | exact smallM (by simp only [List.length_cons, List.length_nil, List.length_append, List.length_map]; omega)
  | fail)
local macro_rules | `(tactic| wtm_at "tx") => `(tactic| first
  | assumption
  | ((with_reducible refine' Tx.app ?hx ?hy); (case hx => wtm_at "tx"); (case hy => wtm_at "tx"))
  | ((with_reducible refine' Tx.cut ?hx); (case hx => wtm_at "tx"))
  | with_reducible exact Tx.nil
  | fail)
local macro_rules | `(tactic| wtm_at "k") => `(tactic| first
  | with_reducible refine k_seq ?_
  | with_reducible refine k_next ?_
  | with_reducible refine k_asg ?_
  | with_reducible refine k_ret ?_
  | with_reducible refine k_retN ?_
  | with_reducible refine k_asgS ?_
  | ((with_reducible refine' l_setL ?hr ?hx ?he ?h2 ?hw ?_); (case hr => wtm_at "run"); (case hx => wtm_at "hf"); (case he => exact rfl); (case h2 => exact rfl); (case hw => wtm_at "wr"); intro _ _ _ _)
  | with_reducible refine k_minD ?_
  | with_reducible refine k_drop ?_
  | with_reducible refine k_ifS ?_
  | ((with_reducible refine' k_var ?hx ?_); (case hx => exact rfl))
  | with_reducible refine k_c ?_
  | with_reducible refine k_negc ?_
  | with_reducible refine k_neg ?_
  | with_reducible refine l_neg ?_
  | with_reducible refine k_op ?_
  | with_reducible refine k_cb ?_
  | with_reducible refine k_nil ?_
  | with_reducible refine k_cons ?_
  | with_reducible refine k_test ?_
  | with_reducible refine k_B ?_
  | with_reducible refine k_not ?_
  | with_reducible refine k_and ?_
  | with_reducible refine k_or ?_
  | with_reducible refine k_notV ?_
  | with_reducible refine k_andV ?_
  | with_reducible refine k_orV ?_
  | with_reducible refine k_bl ?_
  | with_reducible refine k_add ?_
  | with_reducible refine k_sub ?_
  | ((with_reducible refine' k_mod ?hx ?_); (case hx => first | decide | omega))
  | ((with_reducible refine' k_div ?hx ?_); (case hx => first | exact ⟨by decide, by decide⟩ | exact ⟨by omega, by omega⟩))
  | ((with_reducible refine' k_mul ?hx ?_); (case hx => first | exact Or.inl ⟨by decide, by decide⟩ | exact Or.inr ⟨by decide, by decide⟩ | exact Or.inl ⟨by omega, by omega⟩))
  | with_reducible refine k_chain ?_
  | with_reducible refine k_p6 ?_
  | with_reducible refine k_p9 ?_
  | with_reducible refine k_p12 ?_
  | with_reducible refine k_p13 ?_
  | with_reducible refine k_p18 ?_
  | with_reducible refine k_p30 ?_
  | with_reducible refine k_lt ?_
  | with_reducible refine k_le ?_
  | with_reducible refine k_gt ?_
  | with_reducible refine k_ge ?_
  | with_reducible refine k_eq ?_
  | with_reducible refine k_ne ?_
  | with_reducible refine k_seqS ?_
  | with_reducible refine k_neS ?_
  | with_reducible refine k_neB ?_
  | with_reducible refine k_isN ?_
  | with_reducible refine k_noN ?_
  | with_reducible refine k_fld ?_
  | ((with_reducible refine' l_fld ?hx ?hy ?_); (case hx => wtm_at "hf"); (case hy => wtm_at "lk"))
  | with_reducible refine k_fldS ?_
  | ((with_reducible refine' l_fldS ?hr ?hx ?hz ?hy ?hw ?_); (case hr => wtm_at "run"); (case hx => wtm_at "hf"); (case hy => wtm_at "pt"); (case hz => wtm_at "lz"); (case hw => wtm_at "wr"); intro _ _ _ _)
  | ((with_reducible refine' l_new ?hr ?_); (case hr => wtm_at "run"); intro _ _ _ _ _ _ _ _)
  | with_reducible refine k_append ?_
  | ((with_reducible refine' l_tyL ?hx ?_); (case hx => wtm_at "hf"))
  | ((with_reducible refine' l_ins ?hx ?hy ?_); (case hx => wtm_at "hf"); (case hy => wtm_at "lm"))
  | with_reducible refine k_methS ?_
  | with_reducible refine k_methG ?_
  | with_reducible refine k_makeG ?_
  | with_reducible refine k_meth0 ?_
  | with_reducible refine k_callS ?_
  | with_reducible refine k_callE ?_
  | with_reducible refine k_dget ?_
  | with_reducible refine k_din ?_
  | with_reducible refine k_dnotin ?_
  | with_reducible refine k_dput ?_
  | with_reducible refine k_dpop ?_
  | with_reducible refine k_dget2 ?_
  | with_reducible refine k_tup ?_
  | with_reducible refine k_lst ?_
  | with_reducible refine k_dnew ?_
  | ((with_reducible refine' l_tup ?hx ?_); (case hx => simp only [List.length_cons, List.length_nil]; decide))
  | ((with_reducible refine' l_lst ?hx ?_); (case hx => simp only [List.length_cons, List.length_nil]; decide))
  | ((with_reducible refine' l_isD ?hx ?_); (case hx => wtm_at "hf"))
  | ((with_reducible refine' l_dinI ?hx ?_); (case hx => wtm_at "hf"))
  | ((with_reducible refine' l_dinS ?hx ?_); (case hx => wtm_at "hf"))
  | ((with_reducible refine' l_dnotinI ?hx ?_); (case hx => wtm_at "hf"))
  | ((with_reducible refine' l_dnotinS ?hx ?_); (case hx => wtm_at "hf"))
  | ((with_reducible refine' l_dputI ?hr ?hx ?hz ?hy ?hw ?_); (case hr => wtm_at "run"); (case hx => wtm_at "hf"); (case hy => wtm_at "pk"); (case hz => wtm_at "sz"); (case hw => wtm_at "wr"); intro _ _ _ _)
  | ((with_reducible refine' l_dputS ?hr ?hx ?hz ?hy ?hw ?_); (case hr => wtm_at "run"); (case hx => wtm_at "hf"); (case hy => wtm_at "pk"); (case hz => wtm_at "sz"); (case hw => wtm_at "wr"); intro _ _ _ _)
  | ((with_reducible refine' l_dpopI ?hr ?hx ?hz ?hy ?hw ?_); (case hr => wtm_at "run"); (case hx => wtm_at "hf"); (case hy => wtm_at "pk"); (case hz => wtm_at "vk"); (case hw => wtm_at "wr"); intro _ _ _ _)
  | ((with_reducible refine' l_dpopS ?hr ?hx ?hz ?hy ?hw ?_); (case hr => wtm_at "run"); (case hx => wtm_at "hf"); (case hy => wtm_at "pk"); (case hz => wtm_at "vk"); (case hw => wtm_at "wr"); intro _ _ _ _)
  | ((with_reducible refine' l_dgetI ?hx ?hz ?_); (case hx => wtm_at "hf"); (case hz => wtm_at "vk"))
  | ((with_reducible refine' l_dgetS ?hx ?hz ?_); (case hx => wtm_at "hf"); (case hz => wtm_at "vk"))
  | ((with_reducible refine' l_dgetIF ?hx ?hz ?_); (case hx => wtm_at "hf"); (case hz => wtm_at "vk"))
  | ((with_reducible refine' l_dgetSF ?hx ?hz ?_); (case hx => wtm_at "hf"); (case hz => wtm_at "vk"))
  | ((with_reducible refine' l_dgetZ ?hx ?hz ?_); (case hx => wtm_at "hf"); (case hz => wtm_at "vk"))
  | ((with_reducible refine' k_disp ?hr ?_); (case hr => wtm_at "run"); intro _ _ _ _ _ _ _ _)
  | with_reducible refine k_pcons ?_
  | with_reducible refine k_pnil ?_
  | ((with_reducible refine' l_disp ?hr ?hx ?hu ?hv ?hy ?hw ?_); (case hr => wtm_at "run"); (case hx => wtm_at "hf"); (case hu => exact rfl); (case hv => simp only [List.length_map, List.length_cons, List.length_nil]; decide); (case hy => wtm_at "rm"); (case hw => wtm_at "wr"); intro _ _ _ _)
  | ((with_reducible refine' l_append ?hr ?hx ?hz ?hw ?_); (case hr => wtm_at "run"); (case hx => wtm_at "hf"); (case hz => wtm_at "sz"); (case hw => wtm_at "wr"); intro _ _ _ _)
  | ((with_reducible refine' l_isEt ?hx ?_); (case hx => first | exact isD (ExcK.kit (by assumption) _ (by wtm_at "mem") _ (by wtm_at "mem")) | exact isC (ExcK.kit (by assumption) _ (by wtm_at "mem") _ (by wtm_at "mem")) (by decide)))
  | ((with_reducible refine' l_isEV ?hx ?_); (case hx => exact ExcK.kitV (by assumption) _ (by wtm_at "mem")))
  | ((with_reducible refine' l_isiI ?hx ?_); (case hx => first | rfl | assumption))
  | ((with_reducible refine' l_isiB ?hx ?_); (case hx => first | rfl | assumption))
  | with_reducible refine l_isiSS ?_
  | ((with_reducible refine' l_isiS ?hx ?_); (case hx => first | rfl | assumption))
  | ((with_reducible refine' l_isiL ?hx ?_); (case hx => wtm_at "hf"))
  | ((with_reducible refine' l_isiO ?hx ?hy ?hz ?_); (case hx => wtm_at "hf"); (case hy => assumption); (case hz => assumption))
  | ((with_reducible refine' l_isiT ?hx ?_); (case hx => wtm_at "hf"))
  | ((with_reducible refine' l_lenL ?hx ?_); (case hx => wtm_at "sq"))
  | ((with_reducible refine' l_lenT ?hx ?_); (case hx => wtm_at "st"))
  | ((with_reducible refine' l_lenDK ?hx ?_); (case hx => wtm_at "hf"))
  | ((with_reducible refine' l_ixL ?hx ?hy ?_); (case hx => wtm_at "sq"); (case hy => wtm_at "ix"))
  | ((with_reducible refine' l_ixT ?hx ?hy ?_); (case hx => wtm_at "st"); (case hy => wtm_at "ix"))
  | with_reducible refine k_m1 ?_
  | with_reducible refine l_strX ?_
  | with_reducible refine l_sw ?_
  | ((with_reducible refine' x_addS ?hx ?hy ?hz ?_); (case hx => wtm_at "tx"); (case hy => wtm_at "tx"); (case hz => decide))
  | ((with_reducible refine' x_slS ?hx ?hz ?_); (case hx => wtm_at "tx"); (case hz => decide))
  | ((with_reducible refine' x_lenX ?hx ?hz ?_); (case hx => wtm_at "tx"); (case hz => decide))
  | with_reducible refine l_max ?_
  | with_reducible refine l_min ?_
  | with_reducible refine l_abs ?_
  | with_reducible refine k_sl ?_
  | with_reducible refine k_part ?_
  | with_reducible refine l_part ?_
  | with_reducible refine k_nopart ?_
  | with_reducible refine k_yes ?_
  | ((with_reducible refine' l_slL ?hr ?hx ?_); (case hr => wtm_at "run"); (case hx => wtm_at "sq"); intro _ _ _ _ _ _ _ _)
  | with_reducible refine k_lcL ?_
  | with_reducible refine k_lcR ?_
  | with_reducible refine k_for ?_
  | with_reducible refine k_zip ?_
  | with_reducible refine k_rng1 ?_
  | with_reducible refine k_rng2 ?_
  | with_reducible refine k_rng3 ?_
  | with_reducible refine k_makeS ?_
  | ((with_reducible refine' l_make ?hr ?_); (case hr => wtm_at "run"); intro _ _ _ _ _ _ _ _ _)
  | with_reducible refine k_ntt ?_
  | with_reducible refine k_ntf ?_
  | with_reducible refine k_clear ?_
  | ((with_reducible refine' l_clear ?hr ?hx ?hw ?_); (case hr => wtm_at "run"); (case hx => wtm_at "hf"); (case hw => wtm_at "wr"); intro _ _ _ _)
  | with_reducible refine k_ift ?_
  | with_reducible refine k_iff ?_
  | with_reducible refine g_name ?_
  | with_reducible refine k_revL ?_
  | ((with_reducible refine' l_tupL ?hx ?_); (case hx => wtm_at "sq"))
  | with_reducible refine l_intB ?_
  | ((with_reducible refine' l_rev ?hx ?_); (case hx => wtm_at "sq"))
  | ((with_reducible refine' l_gT2 ?hn ?hx ?_); (case hn => exact rfl); (case hx => wtm_at "st"))
  | ((with_reducible refine' l_listL ?hx ?_); (case hx => wtm_at "sq"))
  | ((with_reducible refine' l_listT ?hx ?_); (case hx => wtm_at "st"))
  | fail)
local macro_rules | `(tactic| wtm_at "k") => `(tactic| first
  | with_reducible refine k_wholeI ?_
  | ((with_reducible refine' k_whole ?hx ?_); (case hx => first | rfl | assumption))
  | ((with_reducible refine' k_cell ?hx ?hy ?_); (case hx => first | decide | omega | assumption); (case hy => wtm_at "sq"))
  | fail)
section
variable {P : Program} {w : World} {K : PySem.W.Frag} {mg : Str → Option Value} {base : Heap}
def sp_l_key (K : PySem.W.Frag) : Sp := fun vs H Q _ => ∃ c k, vs = [.int c, .int k] ∧ ∀ s H', Tx 300 s → Ext [] H H' → Q (.str s) H'
theorem sc_l_key : FnScope ["_law_cell", "_law_k", "_law_rest", "_law_at"] ["_law_cell", "_law_k"] (defScope s_l_key) := ⟨rfl, rfl, rfl, by decide +kernel, rfl, by decide +kernel, by decide +kernel⟩
theorem ok_l_key (T : FX K mg) : FnOk P w K mg base (L2N.CX P w) 3 (He.ga K "_law_key") (fdAt K ("_law_key", none)) ["_law_cell", "_law_k"] (sp_l_key K) := by
  refine FunD.ok T.F_l_key sc_l_key (fun vs H Q E h => ?_) (fun cdv A outer s H vs Q E hr h => ?_)
  · (repeat (obtain ⟨_, h⟩ := h)); subst_vars; rfl
  · have hu := hu_of hr
    have hu64 := hr.units
    refine ⟨_,
      (pss_cons
        (ps_if (pt_cmpR oIeq (pe_op oImod (pv 0) pe_int) pe_int (nomark _))
          (pss_one
            (ps_ret (pe_op oSadd (pe_callS (ok_l_sign T) (hr.mono (j := 1) (by decide)) rfl T.g_l_sign T.k_l_sign T.b_l_sign (fun σ => L2N.passAt tkd σ) (pa_cons (pe_op oIadd (pv 0) (pv 1)) pa_nil)) (pe_callS (ok_l_text T) (hr.mono (j := 2) (by decide)) rfl T.g_l_text T.k_l_text T.b_l_text (fun σ => L2N.passAt tkd σ) (pa_cons (pv 0) (pa_cons (pe_op oImod (pv 1) pe_int) pa_nil))))))
          pss_nil)
      (pss_cons
        (ps_set (i := 2) sc_l_key.nd rfl (Or.inl rfl) (pe_callS (ok_l_text T) (hr.mono (j := 2) (by decide)) rfl T.g_l_text T.k_l_text T.b_l_text (fun σ => L2N.passAt tkd σ) (pa_cons (pv 0) (pa_cons (pe_op oImod (pe_op oIdiv (pv 0) pe_int) pe_int) pa_nil))))
      (pss_cons
        (ps_set (i := 3) sc_l_key.nd rfl (Or.inl rfl) (pe_op oImod (pe_op oIdiv (pv 0) pe_int) (pe_op oIadd (pe_callB oLenX (by rfl) T.f_len PySem.boot_len (pa_cons (pv 2) pa_nil)) pe_int)))
      (pss_one
        (ps_ret (pe_op oSadd (pe_op oSadd (pe_slice sl_str (pv 2) po_none (po_some (pv 3))) (pe_callS (ok_l_sign T) (hr.mono (j := 1) (by decide)) rfl T.g_l_sign T.k_l_sign T.b_l_sign (fun σ => L2N.passAt tkd σ) (pa_cons (pe_op oIadd (pv 0) (pv 1)) pa_nil))) (pe_slice sl_str (pv 2) (po_some (pv 3)) po_none))))))), ?_⟩
    obtain ⟨c, k0, rfl, k⟩ := h
    have R0 : Run [] H H := Run.start Live.nil
    repeat wtm_at "k"
    refine k_ifd (fun c1 => ?_) fun c1 => ?_
    · repeat wtm_at "k"
      refine ⟨_, rfl, fun s t1 l1 => ?_⟩
      repeat wtm_at "k"
      refine ⟨_, _, rfl, by omega, by omega, fun s2 H2 t2 e2 _ => ?_⟩
      repeat wtm_at "k"
      exact k _ _ (Tx.mono (by wtm_at "tx") (by decide)) e2
    · repeat wtm_at "k"
      refine ⟨_, _, rfl, by omega, by omega, fun s2 H2 t2 e2 _ => ?_⟩
      repeat wtm_at "k"
      refine ⟨_, rfl, fun s t1 l1 => ?_⟩
      repeat wtm_at "k"
      exact k _ _ (Tx.mono (by wtm_at "tx") (by decide)) e2
/-- how much there is -/
structure Bd (n : Nat) (R : RoomS) (ml : List (Int × Row)) : Prop where
  kp : R.kept.length ≤ 2 * n
  en : R.L.ends.length ≤ n
  sp : R.L.spans.length ≤ n
  ml : ml.length ≤ n
theorem nxt_ends {R : RoomS} {d : Deed} : (R.nxt d).2.L.ends.length ≤ R.L.ends.length + 1 := by
  cases d with
  | grant t => exact length_aput
  | wait t =>
    have : ∀ {l : List (Int × Int)} {R : RoomS}, (l.foldl RoomS.end1 R).L.ends.length ≤ R.L.ends.length := by
      intro l
      induction l with
      | nil => exact Nat.le_refl _
      | cons d l ih =>
        intro R
        refine Nat.le_trans (ih (R := R.end1 d)) ?_
        rw [end1_ends]
        exact length_adrop
    exact Nat.le_succ_of_le this
  | renew h => exact length_aput
  | drop h =>
    show (RoomS.free { R with L := R.L.drop h } h R.now).L.ends.length ≤ _
    rw [free_L]
    exact Nat.le_succ_of_le length_adrop
  | put k v h => exact Nat.le_succ _
  | cut k h => exact Nat.le_succ _
theorem book_len {n now : Int} {d : Deed} {ml : List (Int × Row)} : (bookOf n now d ml).length ≤ ml.length + 1 := by
  cases d <;> first
    | exact length_aput
    | exact Nat.le_succ _
theorem Hst.bd {R : RoomS} {rows : List Row} {g : Int} {ml : List (Int × Row)} {b : Int} (h : Hst R rows g ml b) : R.kept.length ≤ 2 * ml.length ∧ rows.length ≤ 2 * ml.length ∧ R.G.rows.length ≤ rows.length := by
  have := h.ce
  exact ⟨by omega, by omega, h.jl.len⟩
theorem Bd.rsz {n : Nat} {R : RoomS} {rows : List Row} {g : Int} {ml : List (Int × Row)} {b : Int} (h : Bd n R ml) (s : Hst R rows g ml b) (z : n ≤ 100) : RSz R := by
  obtain ⟨a1, a2, a3⟩ := s.bd
  obtain ⟨b1, b2, b3, b4⟩ := h
  have m := Nat.mul_le_mul (show R.L.ends.length + 1 ≤ 101 by omega) (show R.kept.length ≤ 200 by omega)
  exact ⟨by omega, by omega, by omega, by omega⟩
theorem Bd.nxt {n : Nat} {R : RoomS} {rows : List Row} {g k now b : Int} {ml : List (Int × Row)} {d : Deed} (h : Bd n R ml) (s : Hst (R.nxt d).2 rows g (bookOf k now d ml) b) : Bd (n + 1) (R.nxt d).2 (bookOf k now d ml) := by
  obtain ⟨a1, a2, a3⟩ := s.bd
  have e1 := nxt_ends (R := R) (d := d)
  have e2 := nxt_spans (R := R) (d := d)
  have e3 := book_len (n := k) (now := now) (d := d) (ml := ml)
  obtain ⟨b1, b2, b3, b4⟩ := h
  exact ⟨by omega, by omega, by omega, by omega⟩
theorem Bd.mono {n n' : Nat} {R : RoomS} {ml : List (Int × Row)} (h : Bd n R ml) (z : n ≤ n') : Bd n' R ml := by
  obtain ⟨b1, b2, b3, b4⟩ := h
  exact ⟨by omega, by omega, by omega, by omega⟩
/-- the law's record, as the room is -/
def MfX (n : Nat) (m : Addr) (H : Hp) (G : List Addr) (R : RoomS) : Prop := ∃ fm, MfAt m H G R.L.given fm ∧ E1 R ∧ Fr R fm ∧ fm.length ≤ n
theorem MfX.live {n : Nat} {m : Addr} {H : Hp} {G : List Addr} {R : RoomS} (h : MfX n m H G R) : Live H G := by
  obtain ⟨fm, h, _⟩ := h
  exact h.live
theorem MfX.ext {n : Nat} {m : Addr} {H H' : Hp} {G X : List Addr} {R : RoomS} (h : MfX n m H G R) (e : Ext X H H') (a : Apart G X) : MfX n m H' G R := by
  obtain ⟨fm, h, z⟩ := h
  exact ⟨fm, h.ext e a, z⟩
theorem MfX.mono {n n' : Nat} {m : Addr} {H : Hp} {G : List Addr} {R : RoomS} (h : MfX n m H G R) (l : n ≤ n') : MfX n' m H G R := by
  obtain ⟨fm, h, z1, z2, z3⟩ := h
  exact ⟨fm, h, z1, z2, Nat.le_trans z3 l⟩
/-- the room, its history and the law's record -/
structure S9 (K : PySem.W.Frag) (p m : Addr) (n : Nat) (H : Hp) (F G : List Addr) (R : RoomS) (rows : List Row) (g : Int) (ml : List (Int × Row)) : Prop where
  hR : RoomAt K H p F R
  hM : MfX n m H G R
  ap : Apart F G
  hs : Hst R rows g ml R.now
  lo : LOk R
  bd : Bd n R ml
theorem S9.mono {n' : Nat} {p m : Addr} {n : Nat} {H : Hp} {F G : List Addr} {R : RoomS} {rows : List Row} {g : Int} {ml : List (Int × Row)} (s : S9 K p m n H F G R rows g ml) (z : n ≤ n') : S9 K p m n' H F G R rows g ml := { s with hM := s.hM.mono z, bd := s.bd.mono z }
theorem S9.ext {X : List Addr} {H' : Hp} {p m : Addr} {n : Nat} {H : Hp} {F G : List Addr} {R : RoomS} {rows : List Row} {g : Int} {ml : List (Int × Row)} (s : S9 K p m n H F G R rows g ml) (e : Ext X H H') (a : Apart (F ++ G) X) : S9 K p m n H' F G R rows g ml :=
  { s with hR := s.hR.ext e fun c hc => a c (List.mem_append.mpr (.inl hc)), hM := s.hM.ext e fun c hc => a c (List.mem_append.mpr (.inr hc)) }
theorem did9 {p m : Addr} {n : Nat} {H : Hp} {F G : List Addr} {R : RoomS} {rows : List Row} {g : Int} {ml : List (Int × Row)} {v : V} {d : Deed} {Q : VK} {E : XK} (s : S9 K p m n H F G R rows g ml) (z : n ≤ 100) (hv : IsT fD H v d) (dx : DTx d)
    (f : ∀ H' R' ext ml', S9 K p m (n + 1) H' F G R' (rows ++ ext) g ml' → R'.ws = R.ws → R'.met = R.met → Ext (F ++ G) H H' → (R.ref d ≠ none → R' = R ∧ ext = []) → (R.ref d = none → R' = (R.nxt d).2) → Q .non H') : sp_l_did K [.ref p, .ref m, v] H Q E := by
  have el : R.G.last = rows.length := s.hs.last
  obtain ⟨fm, hM, e1, fr, lf⟩ := id s.hM
  refine ⟨p, m, v, F, G, R, _, fm, d, rfl, s.hR, hM, s.ap, hv, dx, s.lo.rk, s.bd.rsz s.hs z, rfl, by omega, fun hn H' hR' hM' e => ?_, fun hn H' hR' hM' e => ?_⟩
  · refine f H' R [] ml ?_ rfl rfl (e.sub (by simp)) (fun _ => ⟨rfl, rfl⟩) (fun z => absurd z hn)
    rw [List.append_nil]
    exact { s with hR := hR', hM := ⟨fm, hM', e1, fr, Nat.le_succ_of_le lf⟩, bd := s.bd.mono (Nat.le_succ _) }
  · obtain ⟨ext, h1, h2, h3, h4, h5⟩ := s.hs.nxt s.lo hn dx
    have nw := nxt_ws (R := R) (d := d)
    refine f H' _ ext _ { hR := hR', hM := ⟨freeOf fm d, ?_, e1.nxt s.lo.g0 hn, fr.nxt e1 s.lo.rk.nk hn, Nat.le_trans freeOf_len (Nat.succ_le_succ lf)⟩, ap := s.ap, hs := by rw [h2]; exact h1, lo := h3, bd := s.bd.nxt h1 } nw.1 nw.2 e (fun z => absurd hn z) (fun _ => rfl)
    rw [h4]
    exact hM'
def sp_l_crowd (K : PySem.W.Frag) : Sp := fun vs H Q _ => ∃ p m F G R rows g ml c, vs = [.ref p, .ref m, .int c] ∧ S9 K p m 0 H F G R rows g ml ∧
  ∀ H' R' ext ml', S9 K p m 41 H' F G R' (rows ++ ext) g ml' → R'.ws = R.ws → R'.met = R.met → Ext (F ++ G) H H' → Q .non H'
theorem sc_l_crowd : FnScope ["_law_room", "_law_m", "_law_cell", "_law_hand", "_law_k"] ["_law_room", "_law_m", "_law_cell"] (defScope s_l_crowd) := ⟨rfl, rfl, rfl, by decide +kernel, rfl, by decide +kernel, by decide +kernel⟩
theorem ok_l_crowd (T : FX K mg) : FnOk P w K mg base (L2N.CX P w) 8 (He.ga K "_law_crowd") (fdAt K ("_law_crowd", none)) ["_law_room", "_law_m", "_law_cell"] (sp_l_crowd K) := by
  refine FunD.ok T.F_l_crowd sc_l_crowd (fun vs H Q E h => ?_) (fun cdv A outer s H vs Q E hr h => ?_)
  · (repeat (obtain ⟨_, h⟩ := h)); subst_vars; rfl
  · have hu := hu_of hr
    have hu64 := hr.units
    refine ⟨_,
      (pss_cons
        (ps_set (i := 3) sc_l_crowd.nd rfl (Or.inl rfl) (pe_op oIadd (pe_dget hu (pv 1) pe_str (fun _ _ => rfl)) pe_int))
      (pss_cons
        (ps_expr (pe_callS (ok_l_did T) (hr.mono (j := 7) (by decide)) rfl T.g_l_did T.k_l_did T.b_l_did (fun σ => L2N.passAt tkd σ) (pa_cons (pv 0) (pa_cons (pv 1) (pa_cons (pe_tup (pa_cons pe_str (pa_cons (pe_op oIadd pe_int (pe_op oImod (pv 2) pe_int)) pa_nil))) pa_nil)))))
      (pss_one
        (ps_for pod rfl (pi_range1 rfl T.f_range (pa_cons pe_int pa_nil)) (pg_name (i := 4) sc_l_crowd.nd rfl (Or.inl rfl))
          (pss_one
            (ps_expr (pe_callS (ok_l_did T) (hr.mono (j := 7) (by decide)) rfl T.g_l_did T.k_l_did T.b_l_did (fun σ => L2N.passAt tkd σ) (pa_cons (pv 0) (pa_cons (pv 1) (pa_cons (pe_tup (pa_cons pe_str (pa_cons (pe_callS (ok_l_key T) (hr.mono (j := 3) (by decide)) rfl T.g_l_key T.k_l_key T.b_l_key (fun σ => L2N.passAt tkd σ) (pa_cons (pv 2) (pa_cons (pv 4) pa_nil))) (pa_cons (pe_callS (ok_l_text T) (hr.mono (j := 2) (by decide)) rfl T.g_l_text T.k_l_text T.b_l_text (fun σ => L2N.passAt tkd σ) (pa_cons (pv 4) (pa_cons (pe_op oImod (pv 4) pe_int) pa_nil))) (pa_cons (pe_ix ix_list (pe_lst (pa_cons (pv 3) (pa_cons pe_int pa_nil))) (pe_op oIdiv (pe_op oImod (pv 4) pe_int) pe_int) (fun _ _ => rfl)) pa_nil))))) pa_nil)))))))))), ?_⟩
    obtain ⟨p, m, F, G, R, rows, g, ml, cell, rfl, s9, k⟩ := h
    obtain ⟨fm, hM0, _⟩ := id s9.hM
    obtain ⟨mi, eG, nmi, h1, h2⟩ := id hM0
    have R0 : Run [] H H := Run.start Live.nil
    repeat wtm_at "k"
    rename_i t H1 u1 u2 u3 r1 g1 s1
    have out : ∀ {c : Addr}, H c = none → c ∉ F ++ G := fun h z => (List.mem_append.mp z).elim (fun z => s9.hR.live _ z h) fun z => s9.hM.live _ z h
    have s91 := s9.ext r1.ext (zero _)
    refine did9 s91 (by omega) ⟨t, rfl, g1⟩ (d := .grant (1 + cell % 9)) trivial fun H2 R2 e2 ml2 s92 w2 m2 x2 _ _ => ?_
    clear s91 h1 h2 R0
    have x02 : Ext (F ++ G) H H2 := (r1.ext.sub (by simp)).trans x2
    repeat wtm_at "k"
    refine l_rng1 (by omega) (l_rng (fun i σ' H' => ∃ x4 R' ext ml', σ' = [some (.ref p), some (.ref m), some (.int cell), some (.int (R.L.given + 1)), x4] ∧ S9 K p m (1 + i) H' F G R' (rows ++ ext) g ml' ∧ R'.ws = R.ws ∧ R'.met = R.met ∧ Ext (F ++ G) H H') ⟨_, R2, e2, ml2, rfl, s92, w2, m2, x02⟩ (fun i σ' H3 hi q => ?_) fun σ' H3 q => ?_)
    · clear s92 x2 x02 r1 g1 s1
      obtain ⟨x4, R3, e3, ml3, rfl, s93, w3, m3, x03⟩ := q
      have hi : i < 40 := hi
      obtain ⟨hd, ehd⟩ := ixI (xs := [R.L.given + 1, 0]) (n := (0 + (i : Int)) % 5 / 4) (by omega) (by show _ < (2 : Int); omega)
      have R3' : Run [] H3 H3 := Run.start Live.nil
      repeat wtm_at "k"
      refine ⟨_, _, rfl, fun key H4 tk e4 => ?_⟩
      have r4 : Run [] H3 H4 := R3'.same e4
      clear R3'
      repeat wtm_at "k"
      refine ⟨_, _, rfl, by omega, by omega, fun val H5 tv e5 _ => ?_⟩
      have r5 : Run [] H3 H5 := r4.same e5
      clear r4
      repeat wtm_at "k"
      rename_i tl H6 w1 w2 w3 r6 g6 s6 t H7 w4 w5 w6 r7 g7 s7
      refine did9 (s93.ext r7.ext (zero _)) (by omega) ⟨t, rfl, g7⟩ (d := .put key val hd) ⟨tk.mono (by decide), tv.mono (by decide)⟩ fun H8 R8 e8 ml8 s98 w8 m8 x8 _ _ => ?_
      repeat wtm_at "k"
      refine ⟨_, R8, e3 ++ e8, ml8, rfl, ?_, w8.trans ‹R3.ws = R.ws›, m8.trans m3, x03.trans ((r7.ext.sub (by simp)).trans x8)⟩
      rw [← List.append_assoc]
      exact s98
    · obtain ⟨x4, R3, e3, ml3, rfl, s93, w3, m3, x03⟩ := q
      repeat wtm_at "k"
      exact k H3 R3 e3 ml3 s93 w3 m3 x03
end
end LW

set_option maxHeartbeats 4000000
namespace LW
open PySem PySem.Spec PyProof.Rows L2
/-! ### texts are sorted, always -/
theorem ltC_total : ∀ {a b : List Nat}, ltCps b a = false ∨ ltCps a b = false
  | [], b => by
    left
    cases b <;> simp [ltCps]
  | x :: a, [] => by
    right
    simp [ltCps]
  | x :: a, y :: b => by
    simp only [ltCps]
    rcases Nat.lt_trichotomy x y with p | p | p
    · left
      simp [Nat.lt_asymm p, Nat.ne_of_gt p]
    · subst p
      rcases ltC_total (a := a) (b := b) with h | h
      · left; simp [h]
      · right; simp [h]
    · right
      simp [Nat.lt_asymm p, Nat.ne_of_gt p]
theorem sortS_sorted (l : List Str) : (sortS l).Pairwise leS := by
  have e : ∃ ys : List Str, ys.Perm l ∧ sortedS ys = true := by
    refine ⟨l.mergeSort (fun a b => !ltCps b.cps.toList a.cps.toList), List.mergeSort_perm _ _, ?_⟩
    refine sortedS_of_pairwise _ (List.Pairwise.imp (fun {a b} h => ?_) (List.pairwise_mergeSort (le := fun a b : Str => !ltCps b.cps.toList a.cps.toList) (fun a b c h1 h2 => ?_) (fun a b => ?_) l))
    · simpa using h
    · simp only [Bool.not_eq_true'] at h1 h2 ⊢
      exact ltC_trans h1 h2
    · rcases ltC_total (a := a.cps.toList) (b := b.cps.toList) with h | h <;> simp [h]
  obtain ⟨ys, h1, h2⟩ := e
  rw [← sortS_eq h1 h2]
  exact sorted_pair h2
theorem sortS_filter {l m : List Str} {f : Str → Bool} (p : l.Perm (m.filter f)) : sortS l = (sortS m).filter f := by
  refine perm_sorted_eq leS_anti ?_ (sortS_sorted l) ((sortS_sorted m).sublist List.filter_sublist)
  exact (sortS_perm l).trans (p.trans ((sortS_perm m).filter f).symm)
/-! ### what stands by an ear, and in the room -/
theorem stBeg_nd : ∀ {b : List SS} {l : List (Str × Str)}, (l.map (·.1)).Nodup → ((b.foldl (fun l p => aput l p.k p.v) l).map (·.1)).Nodup
  | [], _, h => h
  | p :: b, l, h => stBeg_nd (b := b) (nodup_aput h)
theorem stEv_nd {l : List (Str × Str)} (h : (l.map (·.1)).Nodup) (r : Row) : ((stEv l r).map (·.1)).Nodup := by
  unfold stEv
  split
  · exact nodup_aput h
  · exact nodup_adrop h
theorem stFold_nd : ∀ {rows : List Row} {l : List (Str × Str)}, (l.map (·.1)).Nodup → ((rows.foldl stEv l).map (·.1)).Nodup
  | [], _, h => h
  | r :: rows, l, h => stFold_nd (rows := rows) (stEv_nd h r)
theorem stAll_nd {b : List SS} {rows : List Row} : ((stAll b rows).map (·.1)).Nodup := stFold_nd (stBeg_nd List.nodup_nil)
theorem aget_stEv {l : List (Str × Str)} {r : Row} {k : Str} : aget (stEv l r) k = if r.k = k then (if r.w = "put" then some r.v else none) else aget l k := by
  unfold stEv
  by_cases c : r.w = "put"
  · rw [if_pos c, aget_aput]
    by_cases e : r.k = k
    · rw [if_pos e, if_pos e, if_pos c]
    · rw [if_neg e, if_neg e]
  · rw [if_neg c, aget_adrop]
    by_cases e : r.k = k
    · rw [if_pos e, if_pos e, if_neg c]
    · rw [if_neg e, if_neg e]
/-- of all keys those that begin with a prefix -/
def Part (pre : Str) (l L : List (Str × Str)) : Prop := ∀ k, aget l k = if begins k pre = true then aget L k else none
theorem Part.fold {pre : Str} : ∀ {B : List Row} {l L : List (Str × Str)}, Part pre l L → Part pre ((B.filter fun r => begins r.k pre).foldl stEv l) (B.foldl stEv L)
  | [], _, _, h => h
  | r :: B, l, L, h => by
    by_cases c : begins r.k pre = true
    · rw [List.filter_cons, if_pos c]
      refine Part.fold (B := B) (l := stEv l r) (L := stEv L r) fun k => ?_
      rw [aget_stEv, aget_stEv, h k]
      by_cases e : r.k = k
      · rw [if_pos e, if_pos e, ← e, if_pos c]
      · rw [if_neg e, if_neg e]
    · rw [List.filter_cons, if_neg c]
      refine Part.fold (B := B) (l := l) (L := stEv L r) fun k => ?_
      rw [aget_stEv, h k]
      by_cases e : r.k = k
      · rw [← e, if_neg c, if_neg c]
      · rw [if_neg e]
theorem Part.pairs {pre : Str} {l L : List (Str × Str)} {kept : List (Str × (Str × Int))} (h : Part pre l L) (nd : (l.map (·.1)).Nodup) (nk : (kept.map (·.1)).Nodup) (hL : ∀ k, aget L k = (aget kept k).map (·.1)) : sortedPairs l = pairsOf kept pre := by
  have hk : ∀ k, aget l k = if begins k pre = true then (aget kept k).map (·.1) else none := fun k => by rw [h k, hL k]
  have mem : ∀ k, k ∈ l.map (·.1) ↔ k ∈ (kept.map (·.1)).filter fun k => begins k pre := fun k => by
    rw [List.mem_filter]
    have a : k ∈ l.map (·.1) ↔ aget l k ≠ none := ⟨fun z y => aget_none.mp y z, fun z => Decidable.byContradiction fun y => z (aget_none.mpr y)⟩
    have b : k ∈ kept.map (·.1) ↔ aget kept k ≠ none := ⟨fun z y => aget_none.mp y z, fun z => Decidable.byContradiction fun y => z (aget_none.mpr y)⟩
    rw [a, b, hk k]
    by_cases c : begins k pre = true
    · rw [if_pos c]
      cases aget kept k with
      | none => simp
      | some v => simp [c]
    · rw [if_neg c]
      simp [c]
  have e1 : sortS (l.map (·.1)) = (sortS (kept.map (·.1))).filter fun k => begins k pre := sortS_filter ((List.perm_ext_iff_of_nodup nd (nk.filter _)).mpr mem)
  unfold sortedPairs pairsOf
  rw [e1]
  refine List.map_congr_left fun k hkm => ?_
  have c := (List.mem_filter.mp hkm).2
  have kk : k ∈ kept.map (·.1) := (sortS_perm _).mem_iff.mp (List.mem_filter.mp hkm).1
  rw [hk k, if_pos c]
  cases e : aget kept k with
  | none => exact absurd kk (aget_none.mp e)
  | some v => rfl
/-- the pairs that the room tells, as what stood at first -/
theorem aget_pairs {kept : List (Str × (Str × Int))} {pre : Str} (ok : OkK kept) : Part pre (stBeg (pairsOf kept pre)) (kept.map fun p => (p.1, p.2.1)) := by
  have ag : ∀ (kp : List (Str × (Str × Int))) k, aget (kp.map fun p => (p.1, p.2.1)) k = (aget kp k).map (·.1) := by
    intro kp k
    induction kp with
    | nil => rfl
    | cons p kp ih =>
      rw [List.map_cons, aget_cons, aget_cons, ih]
      split <;> rfl
  have key : ∀ (ks : List Str) (l : List (Str × Str)), (∀ k ∈ ks, k ∈ kept.map (·.1)) → ∀ k, aget ((ks.map fun k => ssOf (k, ((aget kept k).getD (Str.empty, 0)).1)).foldl (fun l (p : SS) => aput l p.k p.v) l) k = if k ∈ ks then (aget kept k).map (·.1) else aget l k := by
    intro ks
    induction ks with
    | nil => intro l _ k; simp
    | cons y ks ih =>
      intro l hk k
      have my := hk y List.mem_cons_self
      obtain ⟨v, hv⟩ : ∃ v, aget kept y = some v := by
        cases e : aget kept y with
        | none => exact absurd my (aget_none.mp e)
        | some v => exact ⟨v, rfl⟩
      have e : ssOf (y, ((aget kept y).getD (Str.empty, 0)).1) = ⟨y, v.1, (ok _ (aget_some_mem hv)).1, (ok _ (aget_some_mem hv)).2⟩ := by
        rw [hv, Option.getD_some, ssOf_eq (ok _ (aget_some_mem hv))]
      rw [List.map_cons, List.foldl_cons, ih _ (fun k h => hk k (List.mem_cons_of_mem _ h)), e]
      by_cases c : k ∈ ks
      · rw [if_pos c, if_pos (List.mem_cons_of_mem _ c)]
      · rw [if_neg c, aget_aput]
        by_cases c2 : y = k
        · rw [if_pos c2, if_pos (by rw [c2]; exact List.mem_cons_self), ← c2, hv]; rfl
        · rw [if_neg c2, if_neg (fun z => (List.mem_cons.mp z).elim (fun q => c2 q.symm) c)]
  intro k
  unfold stBeg pairsOf
  rw [key _ [] (fun k h => (sortS_perm _).mem_iff.mp (List.mem_filter.mp h).1) k, ag kept k]
  have m : k ∈ (sortS (kept.map (·.1))).filter (fun k => begins k pre) ↔ aget kept k ≠ none ∧ begins k pre = true := by
    rw [List.mem_filter, (sortS_perm _).mem_iff]
    exact and_congr_left fun _ => ⟨fun z y => aget_none.mp y z, fun z => Decidable.byContradiction fun y => z (aget_none.mpr y)⟩
  by_cases c : begins k pre = true
  · rw [if_pos c]
    cases e : aget kept k with
    | none =>
      rw [if_neg fun z => (m.mp z).1 e]; rfl
    | some v => rw [if_pos (m.mpr ⟨by rw [e]; simp, c⟩)]
  · rw [if_neg c, if_neg fun z => c (m.mp z).2]; rfl
theorem pairs_len {kept : List (Str × (Str × Int))} {pre : Str} : (pairsOf kept pre).length ≤ kept.length := by
  unfold pairsOf
  rw [List.length_map]
  refine Nat.le_trans (List.length_filter_le _ _) ?_
  rw [(sortS_perm _).length_eq, List.length_map]
  exact Nat.le_refl _
/-- what a line began with: what stood by all changes ahead of its first -/
def BegOk (rows : List Row) (s : LineS) : Prop := 1 ≤ s.start ∧ s.start ≤ rows.length + 1 ∧ s.E.begun.length ≤ 1000 ∧ Part s.pre (stBeg s.E.begun) ((rows.take (s.start - 1).toNat).foldl stEv [])
theorem BegOk.grow {rows ext : List Row} {s : LineS} (h : BegOk rows s) : BegOk (rows ++ ext) s := by
  obtain ⟨h1, h2, h3, h4⟩ := h
  refine ⟨h1, by rw [List.length_append]; omega, h3, ?_⟩
  rw [List.take_append_of_le_length (by omega)]
  exact h4
theorem BegOk.new {R : RoomS} {rows : List Row} {g : Int} {ml : List (Int × Row)} {b : Int} {l : Addr} {FL : List Addr} {pre : Str} {px : Tx 1000 pre} {x : WatS} {bh : Int} {rs : List Row} (h : Hst R rows g ml b) (z : R.kept.length ≤ 1000) : BegOk rows ⟨l, FL, pre, px, rows.length + 1, ⟨bh, pairsOf R.kept pre, rs⟩, x⟩ := by
  refine ⟨by show (1 : Int) ≤ rows.length + 1; omega, Int.le_refl _, Nat.le_trans pairs_len z, ?_⟩
  show Part pre (stBeg (pairsOf R.kept pre)) ((rows.take ((rows.length : Int) + 1 - 1).toNat).foldl stEv [])
  rw [show ((rows.length : Int) + 1 - 1).toNat = rows.length by omega, List.take_length]
  intro k
  have ag : ∀ (kp : List (Str × (Str × Int))) k, aget (kp.map fun p => (p.1, p.2.1)) k = (aget kp k).map (·.1) := by
    intro kp k
    induction kp with
    | nil => rfl
    | cons p kp ih =>
      rw [List.map_cons, aget_cons, aget_cons, ih]
      split <;> rfl
  rw [aget_pairs h.ok k, h.vs k, ag]
/-- an ear that has had all knows what stands -/
theorem BegOk.knows {R : RoomS} {rows : List Row} {g : Int} {ml : List (Int × Row)} {b : Int} {s : LineS} (h : Hst R rows g ml b) (o : BegOk rows s) (e : s.E.rows = wants rows s.pre s.start) : sortedPairs (stAll s.E.begun s.E.rows) = pairsOf R.kept s.pre := by
  obtain ⟨h1, h2, h3, h4⟩ := o
  have ew : wants rows s.pre s.start = (rows.drop (s.start - 1).toNat).filter fun r => begins r.k s.pre := by
    unfold wants
    conv => lhs; rw [← List.take_append_drop (s.start - 1).toNat rows]
    rw [List.filter_append]
    have a : (rows.take (s.start - 1).toNat).filter (fun r => decide (s.start ≤ r.n) && begins r.k s.pre) = [] := by
      refine List.filter_eq_nil_iff.mpr fun r hr => ?_
      obtain ⟨i, hi, e⟩ := List.mem_iff_getElem.mp hr
      rw [List.length_take] at hi
      rw [List.getElem_take] at e
      have nm : Num 0 rows := h.jl.nm
      have := nm i r (by rw [List.getElem?_eq_getElem (by omega), e])
      rw [decide_eq_false (show ¬ s.start ≤ r.n by omega)]
      simp
    rw [a, List.nil_append]
    refine List.filter_congr fun r hr => ?_
    obtain ⟨i, hi, e⟩ := List.mem_iff_getElem.mp hr
    rw [List.length_drop] at hi
    rw [List.getElem_drop] at e
    have nm : Num 0 rows := h.jl.nm
    have := nm ((s.start - 1).toNat + i) r (by rw [List.getElem?_eq_getElem (by omega), e])
    rw [decide_eq_true (show s.start ≤ r.n by omega), Bool.true_and]
  have p := h4.fold (B := rows.drop (s.start - 1).toNat)
  rw [← List.foldl_append, List.take_append_drop, ← ew, ← e] at p
  exact Part.pairs p stAll_nd h.nk h.vs
theorem stands_len {R : RoomS} {l : List (Str × Str)} {pre : Str} (e : sortedPairs l = pairsOf R.kept pre) : l.length ≤ R.kept.length := by
  have : (sortedPairs l).length = l.length := by unfold sortedPairs; rw [List.length_map, (sortS_perm _).length_eq, List.length_map]
  rw [← this, e]
  exact pairs_len
theorem ext_put {G : LogS} {r : Row} {rows ext : List Row} {g : Int} (j1 : Jl G ⟨rows, g⟩) (j2 : Jl (G.note r) ⟨rows ++ ext, g⟩) : ext = [r] := by
  have e1 : G.rows = rows.drop g.toNat := j1.rw'
  have e2 : G.rows ++ [r] = (rows ++ ext).drop g.toNat := j2.rw'
  have gl : g ≤ (rows.length : Int) := j1.gl
  rw [List.drop_append_of_le_length (by omega), e1] at e2
  exact (List.append_cancel_left e2).symm
end LW

set_option maxHeartbeats 4000000
namespace LW
open PySem PySem.Spec PyProof.Rows L2
theorem line_sp {K : PySem.W.Frag} {H H1 H2 : Hp} {p l dx : Addr} {F : List Addr} {R : RoomS} {pre : Str} {start : Int} {v : V} {gs : List SS} {px : Tx 1000 pre} {Q' : VK} {E' : XK} (hR : RoomAt K H p F R) (wok : WOk R) (zw : R.ws.length ≤ 900)
    (e1 : Ext [] H H1) (nl : H1 l = none) (hl : H2 l = some (.ins (He.ga K "Line") dx [])) (s2 : Same H1 H2) (hv : ∀ H', Ext (l :: F) H2 H' → PairsOf K H' v gs)
    (q1 : R.G.gone + 1 ≤ start ∧ start ≤ R.G.last + 1 → ∀ H' F' FL, RoomAt K H' p F' (R.watch ⟨pre, px, start - 1, start - 1⟩) → LineAt K H' l FL p (R.met + 1) ⟨start - 1, gs, []⟩ → Grow H F (F' ++ FL) → Apart F' FL → Ext F H H' → Q' .non H')
    (q2 : ¬ (R.G.gone + 1 ≤ start ∧ start ≤ R.G.last + 1) → ∀ H', Ext [] H H' → E' (.ref (He.ga K "NoStart")) none H') : sp_Line_init K [.ref l, .ref p, .str pre, .int start, v] H2 Q' E' := by
  have x02 : Ext [] H H2 := e1.trans (Same.ext s2)
  have hR2 := hR.ext x02 (zero _)
  have nl0 : H l = none := e1.free nl (by simp)
  have lF : l ∉ F := fun z => hR.live l z nl0
  refine ⟨l, dx, p, F, R, pre, start, v, gs, px, rfl, hl, hR2, lF, wok, by omega, hv, fun c H' F' FL hR' hL' gr ap e => ?_, fun c H' e => q2 c H' (x02.then e fun c hc => .inr (by rw [List.mem_singleton.mp hc]; exact nl0))⟩
  refine q1 c H' F' FL hR' hL' (fun c hc => ?_) ap ((x02.sub (by simp) : Ext F H H2).then e fun c hc => ?_)
  · rcases gr c hc with z | z
    · rcases List.mem_cons.mp z with z | z
      · exact .inr (by rw [z]; exact nl0)
      · exact .inl z
    · exact .inr (x02.free z (by simp))
  · rcases List.mem_cons.mp hc with z | z
    · exact .inr (by rw [z]; exact nl0)
    · exact .inl z
/-! ### watchers numbered from n on -/
def wsOf : List LineS → Int → List (Int × WatS)
  | [], _ => []
  | s :: r, n => (n, s.x) :: wsOf r (n + 1)
theorem wsOf_len : ∀ {ls : List LineS} {n : Int}, (wsOf ls n).length = ls.length
  | [], _ => rfl
  | s :: r, n => congrArg Nat.succ (wsOf_len (ls := r))
theorem wsOf_keys : ∀ {ls : List LineS} {n k : Int}, k ∈ (wsOf ls n).map (·.1) → n ≤ k ∧ k < n + ls.length
  | [], _, _, h => by cases h
  | s :: r, n, k, h => by
    rw [List.length_cons]
    rcases List.mem_cons.mp h with z | z
    · have z : k = n := z
      omega
    · have := wsOf_keys (ls := r) z; omega
theorem wsOf_nodup : ∀ {ls : List LineS} {n : Int}, ((wsOf ls n).map (·.1)).Nodup
  | [], _ => List.nodup_nil
  | s :: r, n => List.nodup_cons.mpr ⟨fun z => (by have := wsOf_keys (ls := r) (n := n + 1) (k := n) z; omega), wsOf_nodup⟩
theorem wsOf_get : ∀ {ls : List LineS} {n : Int} {i : Nat} {s : LineS}, ls[i]? = some s → aget (wsOf ls n) (n + i) = some s.x
  | [], _, _, _, h => by cases h
  | s :: r, n, 0, q, h => by
    rw [wsOf, aget_cons, if_pos (show n = n + ((0 : Nat) : Int) by omega), Option.some.inj (show some s = some q from h)]
  | s :: r, n, i + 1, q, h => by
    rw [wsOf, aget_cons, if_neg (show ¬ n = n + ((i + 1 : Nat) : Int) by omega)]
    have := wsOf_get (ls := r) (n := n + 1) (i := i) (s := q) (by simpa using h)
    rw [show n + ((i + 1 : Nat) : Int) = n + 1 + (i : Int) by omega]
    exact this
theorem wsOf_set : ∀ {ls : List LineS} {n : Int} {i : Nat} {s s' : LineS} {y : WatS}, ls[i]? = some s → s'.x = y → (wsOf ls n).map (fun p => if p.1 = n + i then (p.1, y) else p) = wsOf (ls.set i s') n
  | [], _, _, _, _, _, h, _ => by cases h
  | s :: r, n, 0, q, s', y, h, e => by
    rw [wsOf, List.map_cons, if_pos (show n = n + ((0 : Nat) : Int) by omega)]
    show _ = (n, s'.x) :: wsOf r (n + 1)
    rw [e]
    congr 1
    refine (List.map_congr_left fun p hp => if_neg fun z => ?_).trans (List.map_id' _)
    have := wsOf_keys (List.mem_map_of_mem (f := (·.1)) hp)
    omega
  | s :: r, n, i + 1, q, s', y, h, e => by
    rw [wsOf, List.map_cons, if_neg (show ¬ n = n + ((i + 1 : Nat) : Int) by omega)]
    show _ = (n, s.x) :: wsOf (r.set i s') (n + 1)
    rw [show n + ((i + 1 : Nat) : Int) = n + 1 + (i : Int) by omega]
    rw [wsOf_set (ls := r) (n := n + 1) (i := i) (s := q) (s' := s') (by simpa using h) e]
theorem wsOf_snoc : ∀ {ls : List LineS} {n : Int} {s : LineS}, wsOf (ls ++ [s]) n = wsOf ls n ++ [(n + ls.length, s.x)]
  | [], n, s => by show [(n, s.x)] = [] ++ [(n + ((0 : Nat) : Int), s.x)]; rw [show n + ((0 : Nat) : Int) = n by omega]; rfl
  | q :: r, n, s => by
    show (n, q.x) :: wsOf (r ++ [s]) (n + 1) = (n, q.x) :: (wsOf r (n + 1) ++ [(n + ((r.length + 1 : Nat) : Int), s.x)])
    rw [wsOf_snoc, show n + ((r.length + 1 : Nat) : Int) = n + 1 + (r.length : Int) by omega]
theorem wsOf_mem : ∀ {ls : List LineS} {n : Int} {p : Int × WatS}, p ∈ wsOf ls n → ∃ s ∈ ls, p.2 = s.x
  | [], _, _, h => by cases h
  | s :: r, n, p, h => by
    rcases List.mem_cons.mp h with z | z
    · exact ⟨s, List.mem_cons_self, by rw [z]⟩
    · obtain ⟨q, hq, e⟩ := wsOf_mem (ls := r) z
      exact ⟨q, List.mem_cons_of_mem _ hq, e⟩
theorem wsOf_has : ∀ {ls : List LineS} {n : Int} {s : LineS}, s ∈ ls → ∃ k, (k, s.x) ∈ wsOf ls n
  | [], _, _, h => by cases h
  | q :: r, n, s, h => by
    rcases List.mem_cons.mp h with z | z
    · exact ⟨n, by rw [z]; exact List.mem_cons_self⟩
    · obtain ⟨k, hk⟩ := wsOf_has (ls := r) (n := n + 1) z
      exact ⟨k, List.mem_cons_of_mem _ hk⟩
/-- the room, its history, the law's record and the lines; all new since H0 -/
structure Z9 (K : PySem.W.Frag) (fL : LineS → List V) (p m la pp : Addr) (ts : List Str) (H0 : Hp) (n : Nat) (H : Hp) (F G : List Addr) (R : RoomS) (rows : List Row) (g : Int) (ml : List (Int × Row)) (ls : List LineS) (tl : List V) : Prop where
  s : S9 K p m n H F G R rows g ml
  hl : H la = some (.lst tl)
  tl : Paired (IsT fL H) tl ls
  ln : ∀ (i : Nat) s, ls[i]? = some s → LineAt K H s.l s.FL p ((i : Int) + 1) s.E
  aD : ∀ s ∈ ls, Apart (F ++ G) s.FL
  aa : ls.Pairwise fun a b => Apart a.FL b.FL
  nl : la ∉ F ++ G
  nlL : ∀ s ∈ ls, la ∉ s.FL
  hp : PoolAt H pp ts
  np : pp ∉ F ++ G
  npL : ∀ s ∈ ls, pp ∉ s.FL
  nq : pp ≠ la
  inv : ∀ s ∈ ls, LInv rows g s
  ws : R.ws = wsOf ls 1
  mt : R.met = ls.length
  lz : ls.length ≤ 5
  new : ∀ c ∈ F ++ G, H0 c = none
  newL : ∀ s ∈ ls, ∀ c ∈ s.FL, H0 c = none
  nla : H0 la = none
  ex : Ext [] H0 H
section
variable {K : PySem.W.Frag} {fL : LineS → List V} {p m la pp : Addr} {ts : List Str} {H0 H H' : Hp} {n : Nat} {F G : List Addr} {R : RoomS} {rows : List Row} {g : Int} {ml : List (Int × Row)} {ls : List LineS} {tl : List V}
theorem Z9.wok (z : Z9 K fL p m la pp ts H0 n H F G R rows g ml ls tl) : WOk R := ⟨by rw [z.ws]; exact wsOf_nodup, fun k hk => by
  rw [z.ws] at hk
  have := wsOf_keys hk
  rw [z.mt]; omega⟩
theorem Z9.mono {n' : Nat} (z : Z9 K fL p m la pp ts H0 n H F G R rows g ml ls tl) (h : n ≤ n') : Z9 K fL p m la pp ts H0 n' H F G R rows g ml ls tl := { z with s := z.s.mono h }
theorem Z9.same (z : Z9 K fL p m la pp ts H0 n H F G R rows g ml ls tl) (e : Ext [] H H') : Z9 K fL p m la pp ts H0 n H' F G R rows g ml ls tl :=
  { z with s := z.s.ext e (zero _), hl := e.keep _ _ z.hl (by simp), tl := keepT e.tups z.tl, ln := fun i s h => (z.ln i s h).ext e (zero _), hp := z.hp.ext e (by simp), ex := z.ex.trans e }
/-- deeds -/
theorem Z9.did {n' : Nat} {R' : RoomS} {ext : List Row} {ml' : List (Int × Row)} (z : Z9 K fL p m la pp ts H0 n H F G R rows g ml ls tl) (s' : S9 K p m n' H' F G R' (rows ++ ext) g ml') (ew : R'.ws = R.ws) (em : R'.met = R.met) (e : Ext (F ++ G) H H') :
    Z9 K fL p m la pp ts H0 n' H' F G R' (rows ++ ext) g ml' ls tl :=
  { z with s := s', hl := e.keep _ _ z.hl z.nl, tl := keepT e.tups z.tl, ln := fun i s h => (z.ln i s h).ext e (z.aD s (List.mem_of_getElem? h)).symm, hp := z.hp.ext e z.np, inv := fun s h => (z.inv s h).grow s'.hs.jl.nm, ws := ew.trans z.ws, mt := em.trans z.mt, ex := z.ex.then e fun c hc => .inr (z.new c hc) }
theorem LOk.same {R R' : RoomS} (h : LOk R) (e1 : R'.L = R.L) (e2 : R'.now = R.now) (e3 : R'.kept = R.kept) : LOk R' := ⟨by rw [e1, e2]; exact h.en, by rw [e1]; exact h.sp, ⟨by rw [e1]; exact h.rk.sp, by rw [e1]; exact h.rk.ne, by rw [e3]; exact h.rk.nk⟩, by rw [e1]; exact h.g0⟩
/-- a line is put in (its tuple and the list of lines come later) -/
structure NewL (K : PySem.W.Frag) (p : Addr) (H : Hp) (F G : List Addr) (H' : Hp) (F' FL : List Addr) (l : Addr) (n : Int) (E : EarS) : Prop where
  hL : LineAt K H' l FL p n E
  gr : Grow H F (F' ++ FL)
  ap : Apart F' FL
  ex : Ext F H H'
theorem Z9.line {F' FL : List Addr} {l : Addr} {pre : Str} {px : Tx 1000 pre} {start : Int} {b : List SS} {t : Addr} {H2 : Hp} (z : Z9 K fL p m la pp ts H0 n H F G R rows g ml ls tl) (h1 : g + 1 ≤ start) (h2 : start ≤ rows.length + 1) (l5 : ls.length < 5)
    (hR : RoomAt K H' p F' (R.watch ⟨pre, px, start - 1, start - 1⟩)) (hL : LineAt K H' l FL p (R.met + 1) ⟨start - 1, b, []⟩) (gr : Grow H F (F' ++ FL)) (ap : Apart F' FL) (e : Ext F H H') (e2 : Ext [la] H' H2) (hl : H2 la = some (.lst (tl ++ [.ref t])))
    (ht : H2 t = some (.tup (fL ⟨l, FL, pre, px, start, ⟨start - 1, b, []⟩, ⟨pre, px, start - 1, start - 1⟩⟩))) :
    Z9 K fL p m la pp ts H0 n H2 F' G (R.watch ⟨pre, px, start - 1, start - 1⟩) rows g ml (ls ++ [⟨l, FL, pre, px, start, ⟨start - 1, b, []⟩, ⟨pre, px, start - 1, start - 1⟩⟩]) (tl ++ [.ref t]) := by
  have old : ∀ c, H c ≠ none → c ∉ F → c ∉ F' ∧ c ∉ FL := fun c hc n => ⟨fun y => (gr c (List.mem_append.mpr (.inl y))).elim n hc, fun y => (gr c (List.mem_append.mpr (.inr y))).elim n hc⟩
  have lla : H la ≠ none := by rw [z.hl]; simp
  have lpp : H pp ≠ none := by rw [z.hp.at']; simp
  have nlF : la ∉ F := fun y => z.nl (List.mem_append.mpr (.inl y))
  have npF : pp ∉ F := fun y => z.np (List.mem_append.mpr (.inl y))
  have nlG : la ∉ G := fun y => z.nl (List.mem_append.mpr (.inr y))
  have npG : pp ∉ G := fun y => z.np (List.mem_append.mpr (.inr y))
  have lG := z.s.hM.live
  have aFG : Apart F G := z.s.ap
  have e02 : Ext (la :: F) H H2 := (e.sub fun c hc => List.mem_cons_of_mem _ hc).trans (e2.sub fun c hc => by rw [List.mem_singleton.mp hc]; simp)
  have la1 : ∀ {X : List Addr}, la ∉ X → Apart X [la] := fun h c hc y => h (List.mem_singleton.mp y ▸ hc)
  have gF : ∀ c ∈ F' ++ FL, H0 c = none := fun c hc => (gr c hc).elim (fun y => z.new c (List.mem_append.mpr (.inl y))) fun y => z.ex.free y (by simp)
  have gG : Apart F' G ∧ Apart FL G := ⟨fun c hc y => (old c (lG c y) fun q => aFG c q y).1 hc, fun c hc y => (old c (lG c y) fun q => aFG c q y).2 hc⟩
  have oL : ∀ s ∈ ls, Apart F' s.FL ∧ Apart FL s.FL := fun s hs => by
    obtain ⟨i, hi, ei⟩ := List.mem_iff_getElem.mp hs
    have lv := (z.ln i s (by rw [List.getElem?_eq_getElem hi, ei])).live
    have aF : ∀ c ∈ s.FL, c ∉ F := fun c hc y => z.aD s hs c (List.mem_append.mpr (.inl y)) hc
    exact ⟨fun c hc y => (old c (lv c y) (aF c y)).1 hc, fun c hc y => (old c (lv c y) (aF c y)).2 hc⟩
  have nm := z.s.hs
  refine { s := { hR := hR.ext e2 (la1 (old la lla nlF).1), hM := (z.s.hM.ext e aFG.symm).ext e2 (la1 nlG), ap := gG.1, hs := z.s.hs.keep rfl rfl, lo := z.s.lo.same rfl rfl rfl, bd := ⟨z.s.bd.kp, z.s.bd.en, z.s.bd.sp, z.s.bd.ml⟩ }, hl := hl, tl := snocT (keepT e02.tups z.tl) ⟨t, rfl, ht⟩, ln := fun i s h => ?_, aD := fun s h => ?_, aa := ?_, nl := fun y => ?_, nlL := fun s h => ?_, hp := (z.hp.ext e npF).ext e2 (by simpa using z.nq), np := fun y => ?_, npL := fun s h => ?_, nq := z.nq, inv := fun s h => ?_, ws := ?_, mt := ?_, lz := by rw [List.length_append]; show ls.length + 1 ≤ 5; omega, new := fun c hc => ?_, newL := fun s h => ?_, nla := z.nla, ex := (z.ex.then e fun c hc => .inr (z.new c (List.mem_append.mpr (.inl hc)))).then e2 fun c hc => .inr (by rw [List.mem_singleton.mp hc]; exact z.nla) }
  · rcases Nat.lt_trichotomy i ls.length with y | y | y
    · rw [List.getElem?_append_left y] at h
      have hs := List.mem_of_getElem? h
      refine ((z.ln i s h).ext e fun c hc q => z.aD s hs c (List.mem_append.mpr (.inl q)) hc).ext e2 (la1 (z.nlL s hs))
    · rw [y, List.getElem?_append_right (Nat.le_refl _), Nat.sub_self] at h
      rw [← Option.some.inj (show some _ = some s from h), y, ← z.mt]
      exact hL.ext e2 (la1 (old la lla nlF).2)
    · rw [List.getElem?_append_right (by omega), List.getElem?_eq_none (by simp; omega)] at h
      cases h
  · rcases List.mem_append.mp h with h | h
    · intro c hc y
      rcases List.mem_append.mp hc with q | q
      · exact (oL s h).1 c q y
      · exact z.aD s h c (List.mem_append.mpr (.inr q)) y
    · rw [List.mem_singleton.mp h]
      intro c hc y
      rcases List.mem_append.mp hc with q | q
      · exact ap c q y
      · exact gG.2 c y q
  · refine List.pairwise_append.mpr ⟨z.aa, List.pairwise_singleton _ _, fun a ha b hb => ?_⟩
    rw [List.mem_singleton.mp hb]
    exact (oL a ha).2.symm
  · exact (List.mem_append.mp y).elim (old la lla nlF).1 nlG
  · rcases List.mem_append.mp h with h | h
    · exact z.nlL s h
    · rw [List.mem_singleton.mp h]; exact (old la lla nlF).2
  · exact (List.mem_append.mp y).elim (old pp lpp npF).1 npG
  · rcases List.mem_append.mp h with h | h
    · exact z.npL s h
    · rw [List.mem_singleton.mp h]; exact (old pp lpp npF).2
  · rcases List.mem_append.mp h with h | h
    · exact z.inv s h
    · rw [List.mem_singleton.mp h]; exact LInv.new h1 h2
  · show R.ws ++ [(R.met + 1, _)] = _
    rw [wsOf_snoc, z.ws, z.mt, show (ls.length : Int) + 1 = 1 + ls.length by omega]
  · show R.met + 1 = _
    rw [z.mt, List.length_append]; rfl
  · exact (List.mem_append.mp hc).elim (fun y => gF c (List.mem_append.mpr (.inl y))) fun y => z.new c (List.mem_append.mpr (.inr y))
  · rcases List.mem_append.mp h with h | h
    · exact z.newL s h
    · rw [List.mem_singleton.mp h]; exact fun c hc => gF c (List.mem_append.mpr (.inr hc))
/-- the room is trimmed -/
theorem Z9.trim {F' : List Addr} {u : Int} (z : Z9 K fL p m la pp ts H0 n H F G R rows g ml ls tl) (u1 : R.ws = [] → u = R.G.last) (u2 : R.ws ≠ [] → ∃ x ∈ R.ws, u = x.2.had) (u3 : ∀ x ∈ R.ws, u ≤ x.2.had) (hR : RoomAt K H' p F' { R with G := R.G.forget u }) (gr : Grow H F F') (e : Ext F H H') :
    Z9 K fL p m la pp ts H0 n H' F' G { R with G := R.G.forget u } rows (g + max 0 (u - g)) ml ls tl ∧ R.G.many u = max 0 (u - g) := by
  have old : ∀ c, H c ≠ none → c ∉ F → c ∉ F' := fun c hc n y => (gr c y).elim n hc
  have lla : H la ≠ none := by rw [z.hl]; simp
  have lpp : H pp ≠ none := by rw [z.hp.at']; simp
  have nlF : la ∉ F := fun y => z.nl (List.mem_append.mpr (.inl y))
  have npF : pp ∉ F := fun y => z.np (List.mem_append.mpr (.inl y))
  have nlG : la ∉ G := fun y => z.nl (List.mem_append.mpr (.inr y))
  have npG : pp ∉ G := fun y => z.np (List.mem_append.mpr (.inr y))
  have g0 : 0 ≤ g := z.s.hs.jl.g0
  have gl : g ≤ (rows.length : Int) := z.s.hs.jl.gl
  have ub : 0 ≤ u ∧ u ≤ rows.length := by
    by_cases c : R.ws = []
    · rw [u1 c, z.s.hs.last]; omega
    · obtain ⟨x, hx, eu⟩ := u2 c
      rw [z.ws] at hx
      obtain ⟨s, hs, es⟩ := wsOf_mem hx
      have i := z.inv s hs
      rw [eu, es]
      exact ⟨Int.le_trans g0 i.gh, i.hr⟩
  obtain ⟨j, em⟩ := z.s.hs.jl.forget ub.1
  have emin : min u ((⟨rows, g⟩ : LogS).rows.length : Int) = u := by
    show min u (rows.length : Int) = u
    omega
  rw [emin] at j em
  have aFG : Apart F G := z.s.ap
  refine ⟨{ z with s := { hR := hR, hM := z.s.hM.ext e aFG.symm, ap := aFG.grow gr z.s.hM.live, hs := { z.s.hs with jl := j }, lo := z.s.lo.same rfl rfl rfl, bd := ⟨z.s.bd.kp, z.s.bd.en, z.s.bd.sp, z.s.bd.ml⟩ }, hl := e.keep _ _ z.hl nlF, tl := keepT e.tups z.tl, ln := fun i s h => (z.ln i s h).ext e fun c hc q => z.aD s (List.mem_of_getElem? h) c (List.mem_append.mpr (.inl q)) hc, aD := fun s h => ?_, nl := fun y => (List.mem_append.mp y).elim (old la lla nlF) nlG, hp := z.hp.ext e npF, np := fun y => (List.mem_append.mp y).elim (old pp lpp npF) npG, inv := fun s h => ?_, new := fun c hc => ?_, ex := z.ex.then e fun c hc => .inr (z.new c (List.mem_append.mpr (.inl hc))) }, em⟩
  · intro c hc y
    obtain ⟨i, hi, ei⟩ := List.mem_iff_getElem.mp h
    have lv := (z.ln i s (by rw [List.getElem?_eq_getElem hi, ei])).live
    rcases List.mem_append.mp hc with q | q
    · exact old c (lv c y) (fun w => z.aD s h c (List.mem_append.mpr (.inl w)) y) q
    · exact z.aD s h c (List.mem_append.mpr (.inr q)) y
  · have i := z.inv s h
    refine i.trim ?_
    obtain ⟨k, hk⟩ := wsOf_has (n := 1) h
    have := u3 _ (by rw [z.ws]; exact hk)
    have this : u ≤ s.x.had := this
    have := i.gh
    omega
  · exact (List.mem_append.mp hc).elim (fun y => (gr c y).elim (fun w => z.new c (List.mem_append.mpr (.inl w))) fun w => z.ex.free w (by simp)) fun y => z.new c (List.mem_append.mpr (.inr y))
/-- a line is turned -/
theorem Z9.turn {i : Nat} {s : LineS} {E' : EarS} {x' : WatS} (z : Z9 K fL p m la pp ts H0 n H F G R rows g ml ls tl) (hi : ls[i]? = some s) (fk : fL { s with E := E', x := x' } = fL s) (hR : RoomAt K H' p F (R.setW ((i : Int) + 1) x')) (hL : LineAt K H' s.l s.FL p ((i : Int) + 1) E') (e : Ext (F ++ s.FL) H H') (inv : LInv rows g { s with E := E', x := x' }) :
    Z9 K fL p m la pp ts H0 n H' F G (R.setW ((i : Int) + 1) x') rows g ml (ls.set i { s with E := E', x := x' }) tl := by
  have ms := List.mem_of_getElem? hi
  have li : i < ls.length := by
    rcases Nat.lt_or_ge i ls.length with y | y
    · exact y
    · rw [List.getElem?_eq_none y] at hi; cases hi
  have nlF : la ∉ F := fun y => z.nl (List.mem_append.mpr (.inl y))
  have npF : pp ∉ F := fun y => z.np (List.mem_append.mpr (.inl y))
  have la' : la ∉ F ++ s.FL := fun y => (List.mem_append.mp y).elim nlF (z.nlL s ms)
  have pp' : pp ∉ F ++ s.FL := fun y => (List.mem_append.mp y).elim npF (z.npL s ms)
  have aG : Apart G (F ++ s.FL) := fun c hc y => (List.mem_append.mp y).elim (fun q => z.s.ap c q hc) fun q => z.aD s ms c (List.mem_append.mpr (.inr hc)) q
  have memS : ∀ q, q ∈ ls.set i { s with E := E', x := x' } → q ∈ ls ∨ q = { s with E := E', x := x' } := fun q hq => List.mem_or_eq_of_mem_set hq
  have apj : ∀ (j : Nat) (q : LineS), ls[j]? = some q → j ≠ i → Apart q.FL s.FL := fun j q hq n => by
    obtain ⟨b1, b2⟩ := List.getElem?_eq_some_iff.mp hq
    obtain ⟨c1, c2⟩ := List.getElem?_eq_some_iff.mp hi
    rcases Nat.lt_or_ge j i with y | y
    · have := List.pairwise_iff_getElem.mp z.aa j i b1 c1 y
      rw [b2, c2] at this; exact this
    · have := List.pairwise_iff_getElem.mp z.aa i j c1 b1 (by omega)
      rw [b2, c2] at this; exact this.symm
  refine { z with s := { hR := hR, hM := z.s.hM.ext e aG, ap := z.s.ap, hs := z.s.hs.keep rfl rfl, lo := z.s.lo.same rfl rfl rfl, bd := ⟨z.s.bd.kp, z.s.bd.en, z.s.bd.sp, z.s.bd.ml⟩ }, hl := e.keep _ _ z.hl la', tl := ?_, ln := fun j q hq => ?_, aD := fun q hq => ?_, aa := ?_, nlL := fun q hq => ?_, hp := z.hp.ext e pp', npL := fun q hq => ?_, inv := fun q hq => ?_, ws := ?_, mt := by rw [List.length_set]; exact z.mt, lz := by rw [List.length_set]; exact z.lz, newL := fun q hq => ?_, ex := z.ex.then e fun c hc => .inr ?_ }
  · have : ∀ {tl : List V} {ls : List LineS} {i : Nat}, Paired (IsT fL H) tl ls → ls[i]? = some s → Paired (IsT fL H) tl (ls.set i { s with E := E', x := x' }) := by
      intro tl ls i h
      induction h generalizing i with
      | nil => intro h; cases h
      | cons a t ih =>
        intro h
        cases i with
        | zero =>
          have e0 := Option.some.inj (show some _ = some s from h)
          refine .cons ?_ t
          obtain ⟨q, e1, e2⟩ := a
          exact ⟨q, e1, by rw [fk, ← e0]; exact e2⟩
        | succ i => exact .cons a (ih (by simpa using h))
    exact keepT e.tups (this z.tl hi)
  · by_cases c : j = i
    · subst c
      rw [List.getElem?_set_self li] at hq
      rw [← Option.some.inj hq]
      exact hL
    · rw [List.getElem?_set_ne (fun y => c y.symm)] at hq
      have mq := List.mem_of_getElem? hq
      refine (z.ln j q hq).ext e fun c' hc y => ?_
      rcases List.mem_append.mp y with y | y
      · exact z.aD q mq c' (List.mem_append.mpr (.inl y)) hc
      · exact apj j q hq c c' hc y
  · rcases memS q hq with h | h
    · exact z.aD q h
    · rw [h]; exact z.aD s ms
  · refine List.pairwise_iff_getElem.mpr fun a b ha hb ab => ?_
    rw [List.length_set] at ha hb
    have key := List.pairwise_iff_getElem.mp z.aa a b ha hb ab
    obtain ⟨c1, c2⟩ := List.getElem?_eq_some_iff.mp hi
    rw [List.getElem_set, List.getElem_set]
    by_cases ca : i = a
    · rw [if_pos ca, if_neg (by omega)]
      subst ca
      rw [c2] at key; exact key
    · rw [if_neg ca]
      by_cases cb : i = b
      · rw [if_pos cb]
        subst cb
        rw [c2] at key; exact key
      · rw [if_neg cb]; exact key
  · rcases memS q hq with h | h
    · exact z.nlL q h
    · rw [h]; exact z.nlL s ms
  · rcases memS q hq with h | h
    · exact z.npL q h
    · rw [h]; exact z.npL s ms
  · rcases memS q hq with h | h
    · exact z.inv q h
    · rw [h]; exact inv
  · show R.ws.map _ = _
    rw [z.ws, show (i : Int) + 1 = 1 + i by omega]
    exact wsOf_set hi rfl
  · rcases memS q hq with h | h
    · exact z.newL q h
    · rw [h]; exact z.newL s ms
  · exact (List.mem_append.mp hc).elim (fun y => z.new c (List.mem_append.mpr (.inl y))) (z.newL s ms c)
end
end LW

set_option maxHeartbeats 4000000
namespace LW
open PySem PySem.Spec PyProof.Rows L2
local macro_rules | `(tactic| wtm_at "vk") => `(tactic| first
  | assumption
  | with_reducible exact rv_mf_given
  | with_reducible exact rv_mf_free
  | exact valV_sv (by assumption)
  | exact valV_iv (by assumption)
  | fail)
local macro_rules | `(tactic| wtm_at "pk") => `(tactic| first
  | with_reducible exact putK_iv
  | with_reducible exact dropK_ik
  | with_reducible exact dropK_sk
  | with_reducible exact rp_mf_given
  | with_reducible exact rp_mf_free
  | exact putK_sv
  | assumption
  | fail)
local macro_rules | `(tactic| wtm_at "rm") => `(tactic| first
  | with_reducible exact rm_mf
  | exact rfl
  | fail)
local macro_rules | `(tactic| wtm_at "rl") => `(tactic| first
  | with_reducible exact rl_mf
  | with_reducible assumption
  | fail)
local macro_rules | `(tactic| wtm_at "lk") => `(tactic| with_reducible first
  | exact lk_Ear_behind
  | exact lk_Ear_begun
  | exact lk_Ear_rows
  | exact lk_Line_room
  | exact lk_Line_watcher
  | exact lk_Line_ear
  | exact lk_Leases_given
  | exact lk_Leases_spans
  | exact lk_Leases_ends
  | exact lk_Log_rows
  | exact lk_Log_gone
  | exact lk_Watcher_prefix
  | exact lk_Watcher_had
  | exact lk_Watcher_told
  | exact lk_Room_now
  | exact lk_Room_leases
  | exact lk_Room_log
  | exact lk_Room_kept
  | exact lk_Room_watchers
  | exact lk_Room_met
  | fail)
local macro_rules | `(tactic| wtm_at "lm") => `(tactic| with_reducible first
  | exact lm_Ear_hear
  | exact lm_Ear_heard
  | exact lm_Ear_state
  | exact lm_Line_turn
  | exact lm_Leases_grant
  | exact lm_Leases_need
  | exact lm_Leases_renew
  | exact lm_Leases_drop
  | exact lm_Leases_due
  | exact lm_Log_note
  | exact lm_Log_last
  | exact lm_Log_first
  | exact lm_Log_wanted
  | exact lm_Log_forget
  | exact lm_Room_grant
  | exact lm_Room_renew
  | exact lm_Room_drop
  | exact lm_Room_wait
  | exact lm_Room_free
  | exact lm_Room_put
  | exact lm_Room_cut
  | exact lm_Room_value
  | exact lm_Room_holder
  | exact lm_Room_pairs
  | exact lm_Room_last
  | exact lm_Room_first
  | exact lm_Room_watch
  | exact lm_Room_need
  | exact lm_Room_pull
  | exact lm_Room_confirm
  | exact lm_Room_broken
  | exact lm_Room_leave
  | exact lm_Room_trim
  | fail)
local macro_rules | `(tactic| wtm_at "pt") => `(tactic| with_reducible first
  | exact pt_Ear_behind
  | exact pt_Ear_begun
  | exact pt_Ear_rows
  | exact pi_Ear_0
  | exact pi_Ear_1
  | exact pi_Ear_2
  | exact pt_Line_room
  | exact pt_Line_watcher
  | exact pt_Line_ear
  | exact pi_Line_0
  | exact pi_Line_1
  | exact pi_Line_2
  | exact pt_Leases_given
  | exact pt_Leases_spans
  | exact pt_Leases_ends
  | exact pi_Leases_0
  | exact pi_Leases_1
  | exact pi_Leases_2
  | exact pt_Log_rows
  | exact pt_Log_gone
  | exact pi_Log_0
  | exact pi_Log_1
  | exact pt_Watcher_prefix
  | exact pt_Watcher_had
  | exact pt_Watcher_told
  | exact pi_Watcher_0
  | exact pi_Watcher_1
  | exact pi_Watcher_2
  | exact pt_Room_now
  | exact pt_Room_leases
  | exact pt_Room_log
  | exact pt_Room_kept
  | exact pt_Room_watchers
  | exact pt_Room_met
  | exact pi_Room_0
  | exact pi_Room_1
  | exact pi_Room_2
  | exact pi_Room_3
  | exact pi_Room_4
  | exact pi_Room_5
  | fail)
local macro_rules | `(tactic| wtm_at "lz") => `(tactic| with_reducible first
  | exact lz_Ear
  | exact lz_Line
  | exact lz_Leases
  | exact lz_Log
  | exact lz_Watcher
  | exact lz_Room
  | (simp only [List.length_cons, List.length_nil]; decide)
  | exact (by decide)
  | fail)
local macro_rules | `(tactic| wtm_at "hf") => `(tactic| first
  | assumption
  | (refine' hf_s ?hs ?hx; (case hs => assumption); (case hx => wtm_at "hf"))
  | (refine' hf_n ?hs ?hx ?ne; (case hs => assumption); (case hx => wtm_at "hf"); (case ne => wtm_at "ne"))
  | (refine' hf_e ?hs ?hx ?hy; (case hs => assumption); (case hx => wtm_at "hf"); (case hy => wtm_at "nin"))
  | fail)
local macro_rules | `(tactic| wtm_at "ne") => `(tactic| first
  | assumption
  | (apply Ne.symm; assumption)
  | (refine' ne_of_none ?hx ?hy; (case hy => assumption); (case hx => wtm_at "hf"))
  | (refine' (ne_of_none ?hx ?hy).symm; (case hy => assumption); (case hx => wtm_at "hf"))
  | (refine' ne_of ?hx ?hy ?hz; (case hx => assumption); (case hy => assumption); (case hz => intro z; cases z))
  | fail)
local macro_rules | `(tactic| wtm_at "nin") => `(tactic| first
  | assumption
  | exact notin_nil
  | (refine' notin_cons ?hx ?hy; (case hx => wtm_at "ne"); (case hy => wtm_at "nin"))
  | fail)
local macro_rules | `(tactic| wtm_at "mem") => `(tactic| first
  | assumption
  | exact List.mem_cons_self
  | (refine' List.mem_cons_of_mem _ ?hx; (case hx => wtm_at "mem"))
  | fail)
local macro_rules | `(tactic| wtm_at "wr") => `(tactic| first
  | exact Or.inr (by assumption)
  | exact Or.inl (by wtm_at "mem")
  | fail)
local macro_rules | `(tactic| wtm_at "lv") => `(tactic| first
  | assumption
  | exact Live.nil
  | (refine' Live.cons ?hx ?hy; (case hx => wtm_at "hf"); (case hy => wtm_at "lv"))
  | fail)
local macro_rules | `(tactic| wtm_at "run") => `(tactic| first
  | assumption
  | (refine' Run.same ?hx ?hy; (case hy => assumption); (case hx => wtm_at "run"))
  | fail)
local macro_rules | `(tactic| wtm_at "sq") => `(tactic| first
  | assumption
  | (refine' Run.seq ?hx ?hy; (case hx => assumption); (case hy => assumption))
  | (refine' SqL.of ?hx; (case hx => wtm_at "hf"))
  | (refine' Same.seq ?hx ?hy; (case hx => assumption); (case hy => wtm_at "sq"))
  | (refine' Ext.seqL ?hx ?hz ?hy; (case hx => assumption); (case hy => wtm_at "sq"); (case hz => wtm_at "nin"))
  | fail)
local macro_rules | `(tactic| wtm_at "st") => `(tactic| first
  | assumption
  | (refine' SqT.of ?hx; (case hx => wtm_at "hf"))
  | fail)
local macro_rules | `(tactic| wtm_at "ix") => `(tactic| first
  | assumption
  | exact rfl
  | fail)
local macro_rules | `(tactic| wtm_at "sz") => `(tactic| first
  | wtm_at "rl"
  | with_reducible assumption
  | (rw [ik_len]; wtm_at "sz")
  | (rw [sk_len]; wtm_at "sz")
  | exact smallM (by assumption)
  | exact smallM (by omega)
  | exact smallM (by simp only [List.length_cons, List.length_nil, List.length_append, List.length_map]; omega)
  | fail)
local macro_rules | `(tactic| wtm_at "tx") => `(tactic| first
  | assumption
  | ((with_reducible refine' Tx.app ?hx ?hy); (case hx => wtm_at "tx"); (case hy => wtm_at "tx"))
  | ((with_reducible refine' Tx.cut ?hx); (case hx => wtm_at "tx"))
  | with_reducible exact Tx.nil
  | fail)
local macro_rules | `(tactic| wtm_at "k") => `(tactic| first
  | with_reducible refine k_seq ?_
  | with_reducible refine k_next ?_
  | with_reducible refine k_asg ?_
  | with_reducible refine k_ret ?_
  | with_reducible refine k_retN ?_
  | with_reducible refine k_asgS ?_
  | ((with_reducible refine' l_setL ?hr ?hx ?he ?h2 ?hw ?_); (case hr => wtm_at "run"); (case hx => wtm_at "hf"); (case he => exact rfl); (case h2 => exact rfl); (case hw => wtm_at "wr"); intro _ _ _ _)
  | with_reducible refine k_minD ?_
  | with_reducible refine k_drop ?_
  | with_reducible refine k_ifS ?_
  | ((with_reducible refine' k_var ?hx ?_); (case hx => exact rfl))
  | with_reducible refine k_c ?_
  | with_reducible refine k_negc ?_
  | with_reducible refine k_neg ?_
  | with_reducible refine l_neg ?_
  | with_reducible refine k_op ?_
  | with_reducible refine k_cb ?_
  | with_reducible refine k_nil ?_
  | with_reducible refine k_cons ?_
  | with_reducible refine k_test ?_
  | with_reducible refine k_B ?_
  | with_reducible refine k_not ?_
  | with_reducible refine k_and ?_
  | with_reducible refine k_or ?_
  | with_reducible refine k_notV ?_
  | with_reducible refine k_andV ?_
  | with_reducible refine k_orV ?_
  | with_reducible refine k_bl ?_
  | with_reducible refine k_add ?_
  | with_reducible refine k_sub ?_
  | ((with_reducible refine' k_mod ?hx ?_); (case hx => first | decide | omega))
  | ((with_reducible refine' k_div ?hx ?_); (case hx => first | exact ⟨by decide, by decide⟩ | exact ⟨by omega, by omega⟩))
  | ((with_reducible refine' k_mul ?hx ?_); (case hx => first | exact Or.inl ⟨by decide, by decide⟩ | exact Or.inr ⟨by decide, by decide⟩ | exact Or.inl ⟨by omega, by omega⟩))
  | with_reducible refine k_chain ?_
  | with_reducible refine k_p6 ?_
  | with_reducible refine k_p9 ?_
  | with_reducible refine k_p12 ?_
  | with_reducible refine k_p13 ?_
  | with_reducible refine k_p18 ?_
  | with_reducible refine k_p30 ?_
  | with_reducible refine k_lt ?_
  | with_reducible refine k_le ?_
  | with_reducible refine k_gt ?_
  | with_reducible refine k_ge ?_
  | with_reducible refine k_eq ?_
  | with_reducible refine k_ne ?_
  | with_reducible refine k_seqS ?_
  | with_reducible refine k_neS ?_
  | with_reducible refine k_neB ?_
  | with_reducible refine k_isN ?_
  | with_reducible refine k_noN ?_
  | with_reducible refine k_fld ?_
  | ((with_reducible refine' l_fld ?hx ?hy ?_); (case hx => wtm_at "hf"); (case hy => wtm_at "lk"))
  | with_reducible refine k_fldS ?_
  | ((with_reducible refine' l_fldS ?hr ?hx ?hz ?hy ?hw ?_); (case hr => wtm_at "run"); (case hx => wtm_at "hf"); (case hy => wtm_at "pt"); (case hz => wtm_at "lz"); (case hw => wtm_at "wr"); intro _ _ _ _)
  | ((with_reducible refine' l_new ?hr ?_); (case hr => wtm_at "run"); intro _ _ _ _ _ _ _ _)
  | with_reducible refine k_append ?_
  | ((with_reducible refine' l_tyL ?hx ?_); (case hx => wtm_at "hf"))
  | ((with_reducible refine' l_ins ?hx ?hy ?_); (case hx => wtm_at "hf"); (case hy => wtm_at "lm"))
  | with_reducible refine k_methS ?_
  | with_reducible refine k_methG ?_
  | with_reducible refine k_makeG ?_
  | with_reducible refine k_meth0 ?_
  | with_reducible refine k_callS ?_
  | with_reducible refine k_callE ?_
  | with_reducible refine k_dget ?_
  | with_reducible refine k_din ?_
  | with_reducible refine k_dnotin ?_
  | with_reducible refine k_dput ?_
  | with_reducible refine k_dpop ?_
  | with_reducible refine k_dget2 ?_
  | with_reducible refine k_tup ?_
  | with_reducible refine k_lst ?_
  | with_reducible refine k_dnew ?_
  | ((with_reducible refine' l_tup ?hx ?_); (case hx => simp only [List.length_cons, List.length_nil]; decide))
  | ((with_reducible refine' l_lst ?hx ?_); (case hx => simp only [List.length_cons, List.length_nil]; decide))
  | ((with_reducible refine' l_isD ?hx ?_); (case hx => wtm_at "hf"))
  | ((with_reducible refine' l_dinI ?hx ?_); (case hx => wtm_at "hf"))
  | ((with_reducible refine' l_dinS ?hx ?_); (case hx => wtm_at "hf"))
  | ((with_reducible refine' l_dnotinI ?hx ?_); (case hx => wtm_at "hf"))
  | ((with_reducible refine' l_dnotinS ?hx ?_); (case hx => wtm_at "hf"))
  | ((with_reducible refine' l_dputI ?hr ?hx ?hz ?hy ?hw ?_); (case hr => wtm_at "run"); (case hx => wtm_at "hf"); (case hy => wtm_at "pk"); (case hz => wtm_at "sz"); (case hw => wtm_at "wr"); intro _ _ _ _)
  | ((with_reducible refine' l_dputS ?hr ?hx ?hz ?hy ?hw ?_); (case hr => wtm_at "run"); (case hx => wtm_at "hf"); (case hy => wtm_at "pk"); (case hz => wtm_at "sz"); (case hw => wtm_at "wr"); intro _ _ _ _)
  | ((with_reducible refine' l_dpopI ?hr ?hx ?hz ?hy ?hw ?_); (case hr => wtm_at "run"); (case hx => wtm_at "hf"); (case hy => wtm_at "pk"); (case hz => wtm_at "vk"); (case hw => wtm_at "wr"); intro _ _ _ _)
  | ((with_reducible refine' l_dpopS ?hr ?hx ?hz ?hy ?hw ?_); (case hr => wtm_at "run"); (case hx => wtm_at "hf"); (case hy => wtm_at "pk"); (case hz => wtm_at "vk"); (case hw => wtm_at "wr"); intro _ _ _ _)
  | ((with_reducible refine' l_dgetI ?hx ?hz ?_); (case hx => wtm_at "hf"); (case hz => wtm_at "vk"))
  | ((with_reducible refine' l_dgetS ?hx ?hz ?_); (case hx => wtm_at "hf"); (case hz => wtm_at "vk"))
  | ((with_reducible refine' l_dgetIF ?hx ?hz ?_); (case hx => wtm_at "hf"); (case hz => wtm_at "vk"))
  | ((with_reducible refine' l_dgetSF ?hx ?hz ?_); (case hx => wtm_at "hf"); (case hz => wtm_at "vk"))
  | ((with_reducible refine' l_dgetZ ?hx ?hz ?_); (case hx => wtm_at "hf"); (case hz => wtm_at "vk"))
  | ((with_reducible refine' k_disp ?hr ?_); (case hr => wtm_at "run"); intro _ _ _ _ _ _ _ _)
  | with_reducible refine k_pcons ?_
  | with_reducible refine k_pnil ?_
  | ((with_reducible refine' l_disp ?hr ?hx ?hu ?hv ?hy ?hw ?_); (case hr => wtm_at "run"); (case hx => wtm_at "hf"); (case hu => exact rfl); (case hv => simp only [List.length_map, List.length_cons, List.length_nil]; decide); (case hy => wtm_at "rm"); (case hw => wtm_at "wr"); intro _ _ _ _)
  | ((with_reducible refine' l_append ?hr ?hx ?hz ?hw ?_); (case hr => wtm_at "run"); (case hx => wtm_at "hf"); (case hz => wtm_at "sz"); (case hw => wtm_at "wr"); intro _ _ _ _)
  | ((with_reducible refine' l_isEt ?hx ?_); (case hx => first | exact isD (ExcK.kit (by assumption) _ (by wtm_at "mem") _ (by wtm_at "mem")) | exact isC (ExcK.kit (by assumption) _ (by wtm_at "mem") _ (by wtm_at "mem")) (by decide)))
  | ((with_reducible refine' l_isEV ?hx ?_); (case hx => exact ExcK.kitV (by assumption) _ (by wtm_at "mem")))
  | ((with_reducible refine' l_isiI ?hx ?_); (case hx => first | rfl | assumption))
  | ((with_reducible refine' l_isiB ?hx ?_); (case hx => first | rfl | assumption))
  | with_reducible refine l_isiSS ?_
  | ((with_reducible refine' l_isiS ?hx ?_); (case hx => first | rfl | assumption))
  | ((with_reducible refine' l_isiL ?hx ?_); (case hx => wtm_at "hf"))
  | ((with_reducible refine' l_isiO ?hx ?hy ?hz ?_); (case hx => wtm_at "hf"); (case hy => assumption); (case hz => assumption))
  | ((with_reducible refine' l_isiT ?hx ?_); (case hx => wtm_at "hf"))
  | ((with_reducible refine' l_lenL ?hx ?_); (case hx => wtm_at "sq"))
  | ((with_reducible refine' l_lenT ?hx ?_); (case hx => wtm_at "st"))
  | ((with_reducible refine' l_lenDK ?hx ?_); (case hx => wtm_at "hf"))
  | ((with_reducible refine' l_ixL ?hx ?hy ?_); (case hx => wtm_at "sq"); (case hy => wtm_at "ix"))
  | ((with_reducible refine' l_ixT ?hx ?hy ?_); (case hx => wtm_at "st"); (case hy => wtm_at "ix"))
  | with_reducible refine k_m1 ?_
  | with_reducible refine l_strX ?_
  | with_reducible refine l_sw ?_
  | ((with_reducible refine' x_addS ?hx ?hy ?hz ?_); (case hx => wtm_at "tx"); (case hy => wtm_at "tx"); (case hz => decide))
  | ((with_reducible refine' x_slS ?hx ?hz ?_); (case hx => wtm_at "tx"); (case hz => decide))
  | ((with_reducible refine' x_lenX ?hx ?hz ?_); (case hx => wtm_at "tx"); (case hz => decide))
  | with_reducible refine l_max ?_
  | with_reducible refine l_min ?_
  | with_reducible refine l_abs ?_
  | with_reducible refine k_sl ?_
  | with_reducible refine k_part ?_
  | with_reducible refine l_part ?_
  | with_reducible refine k_nopart ?_
  | with_reducible refine k_yes ?_
  | ((with_reducible refine' l_slL ?hr ?hx ?_); (case hr => wtm_at "run"); (case hx => wtm_at "sq"); intro _ _ _ _ _ _ _ _)
  | with_reducible refine k_lcL ?_
  | with_reducible refine k_lcR ?_
  | with_reducible refine k_for ?_
  | with_reducible refine k_zip ?_
  | with_reducible refine k_rng1 ?_
  | with_reducible refine k_rng2 ?_
  | with_reducible refine k_rng3 ?_
  | with_reducible refine k_makeS ?_
  | ((with_reducible refine' l_make ?hr ?_); (case hr => wtm_at "run"); intro _ _ _ _ _ _ _ _ _)
  | with_reducible refine k_ntt ?_
  | with_reducible refine k_ntf ?_
  | with_reducible refine k_clear ?_
  | ((with_reducible refine' l_clear ?hr ?hx ?hw ?_); (case hr => wtm_at "run"); (case hx => wtm_at "hf"); (case hw => wtm_at "wr"); intro _ _ _ _)
  | with_reducible refine k_ift ?_
  | with_reducible refine k_iff ?_
  | with_reducible refine g_name ?_
  | with_reducible refine k_revL ?_
  | ((with_reducible refine' l_tupL ?hx ?_); (case hx => wtm_at "sq"))
  | with_reducible refine l_intB ?_
  | ((with_reducible refine' l_rev ?hx ?_); (case hx => wtm_at "sq"))
  | ((with_reducible refine' l_gT2 ?hn ?hx ?_); (case hn => exact rfl); (case hx => wtm_at "st"))
  | ((with_reducible refine' l_listL ?hx ?_); (case hx => wtm_at "sq"))
  | ((with_reducible refine' l_listT ?hx ?_); (case hx => wtm_at "st"))
  | fail)
local macro_rules | `(tactic| wtm_at "k") => `(tactic| first
  | with_reducible refine k_wholeI ?_
  | ((with_reducible refine' k_whole ?hx ?_); (case hx => first | rfl | assumption))
  | ((with_reducible refine' k_cell ?hx ?hy ?_); (case hx => first | decide | omega | assumption); (case hy => wtm_at "sq"))
  | fail)
theorem hu65 {k : Nat} {A : Around} (r : Room k A) : A.units + 65 < cLine := by have := r.un; omega
section
variable {nx bk ct : St → Hp → Prop} {rt : VK} {σ : St} {H : Hp} {td : TE} {tb : TS} {g : TG} {v : V}
theorem l_forS {α : Type} {V' : Str → α → V} {l : List (Str × α)} {d : Addr} (hd : H d = some (.dK (sk V' l))) (htd : ∀ od (R : VK), R (.ref d) (upd H d (.frz od (.dK (sk V' l)))) → td σ (upd H d (.frz od (.dK (sk V' l)))) R)
    (Pv : Obj → Nat → St → Hp → Prop) (h0 : ∀ od, Pv od 0 σ (upd H d (.frz od (.dK (sk V' l))))) (hf : ∀ od i σ H, Pv od i σ H → H d = some (.frz od (.dK (sk V' l))))
    (hs : ∀ od i p σ H (rt' : VK) (nx' : St → Hp → Prop), l[i]? = some p → Pv od i σ H → (∀ v H', rt v (upd H' d (.dK (sk V' l))) → H' d = some (.frz od (.dK (sk V' l))) → rt' v H') → g (.str p.1) σ H fun σ2 H2 => tb ⟨Pv od (i + 1), rt', nx', Pv od (i + 1)⟩ σ2 H2)
    (hn : ∀ od σ H, Pv od l.length σ H → nx σ (upd H d (.dK (sk V' l)))) : tLock (tFor (iKeys td) g tb) ⟨nx, rt, bk, ct⟩ σ H :=
  l_forK hd htd Pv h0 hf (fun od i key y σ H rt' nx' ek q q1 => by
    obtain ⟨p, e, rfl, rfl⟩ := sk_get ek
    exact hs od i p σ H rt' nx' e q q1) fun od σ H q => hn od σ H (by rw [sk_len] at q; exact q)
end
theorem pairs_begin {kept : List (Str × (Str × Int))} {pre : Str} (ok : OkK kept) {s : SS} (h : s ∈ pairsOf kept pre) : begins s.k pre = true := by
  unfold pairsOf at h
  obtain ⟨k, hk, rfl⟩ := List.mem_map.mp h
  obtain ⟨h1, h2⟩ := List.mem_filter.mp hk
  have m := (sortS_perm _).mem_iff.mp h1
  cases e : aget kept k with
  | none => exact absurd m (aget_none.mp e)
  | some v =>
    rw [Option.getD_some, ssOf_eq (ok _ (aget_some_mem e))]
    exact h2
theorem pairs_mem {kept : List (Str × (Str × Int))} (ok : OkK kept) {k v : Str} {h : Int} (e : aget kept k = some (v, h)) : (⟨k, v, (ok _ (aget_some_mem e)).1, (ok _ (aget_some_mem e)).2⟩ : SS) ∈ pairsOf kept Str.empty := by
  unfold pairsOf
  refine List.mem_map.mpr ⟨k, List.mem_filter.mpr ⟨(sortS_perm _).mem_iff.mpr (List.mem_map_of_mem (f := (·.1)) (aget_some_mem e)), begins_empty k⟩, ?_⟩
  rw [e, Option.getD_some, ssOf_eq (ok _ (aget_some_mem e))]
section
variable {P : Program} {w : World} {K : PySem.W.Frag} {mg : Str → Option Value} {base : Heap}
def sp_line_now (K : PySem.W.Frag) : Sp := fun vs H Q _ => ∃ p F R pre, ∃ px : Tx 1000 pre, vs = [.ref p, .str pre] ∧ RoomAt K H p F R ∧ WOk R ∧ R.ws.length ≤ 900 ∧ (R.kept.map (·.1)).Nodup ∧ R.kept.length ≤ 1000 ∧
  ∀ H' F' FL l, H l = none → RoomAt K H' p F' (R.watch ⟨pre, px, R.G.last + 1 - 1, R.G.last + 1 - 1⟩) → LineAt K H' l FL p (R.met + 1) ⟨R.G.last + 1 - 1, pairsOf R.kept pre, []⟩ → Grow H F (F' ++ FL) → Apart F' FL → Ext F H H' → Q (.ref l) H'
theorem sc_line_now : FnScope ["room", "prefix"] ["room", "prefix"] (defScope s_line_now) := ⟨rfl, rfl, rfl, by decide +kernel, rfl, by decide +kernel, by decide +kernel⟩
theorem ok_line_now (T : FX K mg) : FnOk P w K mg base (L2N.CX P w) 6 (He.ga K "line_now") (fdAt K ("line_now", none)) ["room", "prefix"] (sp_line_now K) := by
  refine FunD.ok T.F_line_now sc_line_now (fun vs H Q E h => ?_) (fun cdv A outer s H vs Q E hr h => ?_)
  · (repeat (obtain ⟨_, h⟩ := h)); subst_vars; rfl
  · have hu := hu_of hr
    have hu64 := hr.units
    obtain ⟨_, kb_Line_init_4⟩ := kb_Line_init_4X T
    refine ⟨_,
      (pss_one
        (ps_ret (pe_makeG T.mk_Line (ok_Line_init T) (hr.mono (j := 5) (by decide)) rfl T.g_Line kb_Line_init_4 (fun σ => L2N.passAt tkd σ) (pa_cons (pv 0) (pa_cons (pv 1) (pa_cons (pe_op oIadd (pe_meth0S (pv 0) T.cl_Room T.me_Room_last (ok_Room_last T) (hr.mono (j := 2) (by decide)) T.b_Room_last (fun σ => L2N.passAt tkd σ)) pe_int) (pa_cons (pe_methS (pv 0) T.cl_Room T.me_Room_pairs (ok_Room_pairs T) (hr.mono (j := 1) (by decide)) T.b_Room_pairs (fun σ => L2N.passAt tkd σ) (pa_cons (pv 1) pa_nil)) pa_nil)))) pk_nil))), ?_⟩
    obtain ⟨p, F, R, pre, px, rfl, hR, wok, zw, nd, zk, k⟩ := h
    obtain ⟨X, Fp, eF, S⟩ := id hR
    obtain ⟨em, dxx, hp⟩ := S.r .me
    repeat wtm_at "k"
    refine ⟨p, F, R, rfl, hR, ?_⟩
    repeat wtm_at "k"
    refine ⟨p, F, R, pre, 1000, rfl, hR, nd, px, zk, fun lr H1 ys nl e1 g1 py => ?_⟩
    have lrF : lr ∉ F := fun y => hR.live lr y nl
    have R1 : Run [] H1 H1 := Run.start Live.nil
    repeat wtm_at "k"
    refine ⟨rfl, rfl, l_make R1 fun l dxl H2 f1 f2 f3 r2 g2 s2 => ?_⟩
    have lle : l ≠ lr := fun y => by rw [y, g1] at f3; cases f3
    have lg : R.G.gone ≤ R.G.last := by unfold LogS.last; omega
    refine line_sp (gs := pairsOf R.kept pre) (px := px) hR wok zw e1 f3 g2 s2 (fun H' e => .inr ⟨lr, ys, rfl, .inl (SqL.of (e.keep _ _ (s2 _ _ g1) (by simp only [List.mem_cons, not_or]; exact ⟨fun y => lle y.symm, lrF⟩))), keepT e.tups (keepT r2.ext.tups py)⟩) (fun c H' F' FL hR' hL' gr ap e => ⟨rfl, ?_⟩) fun c H' e => absurd ⟨by omega, by omega⟩ c
    repeat wtm_at "k"
    exact k H' F' FL l (e1.free f3 (by simp)) hR' hL' gr ap e
def sp_l_knows (K : PySem.W.Frag) : Sp := fun vs H Q _ => ∃ l p FL F R n Ea pre, vs = [.ref l, .ref p, .str pre] ∧ RoomAt K H p F R ∧ LineAt K H l FL p n Ea ∧ (R.kept.map (·.1)).Nodup ∧ OkK R.kept ∧ Tx 1000 pre ∧ R.kept.length ≤ 1000 ∧ Ea.begun.length + Ea.rows.length ≤ 1000000 ∧ sortedPairs (stAll Ea.begun Ea.rows) = pairsOf R.kept pre ∧
  ∀ H', Ext [] H H' → Q (.bl true) H'
theorem sc_l_knows : FnScope ["_law_line", "_law_room", "_law_prefix_here", "_law_due", "_law_one"] ["_law_line", "_law_room", "_law_prefix_here"] (defScope s_l_knows) := ⟨rfl, rfl, rfl, by decide +kernel, rfl, by decide +kernel, by decide +kernel⟩
theorem ok_l_knows (T : FX K mg) : FnOk P w K mg base (L2N.CX P w) 2 (He.ga K "_law_knows") (fdAt K ("_law_knows", none)) ["_law_line", "_law_room", "_law_prefix_here"] (sp_l_knows K) := by
  refine FunD.ok T.F_l_knows sc_l_knows (fun vs H Q E h => ?_) (fun cdv A outer s H vs Q E hr h => ?_)
  · (repeat (obtain ⟨_, h⟩ := h)); subst_vars; rfl
  · have hu := hu_of hr
    have hu64 := hr.units
    refine ⟨_,
      (pss_cons
        (ps_set (i := 3) sc_l_knows.nd rfl (Or.inl rfl) (pe_callTy oList (by rfl) T.f_list boot_list (pa_cons (pe_methS (pv 1) T.cl_Room T.me_Room_pairs (ok_Room_pairs T) (hr.mono (j := 1) (by decide)) T.b_Room_pairs (fun σ => L2N.passAt tkd σ) (pa_cons (pv 2) pa_nil)) pa_nil)))
      (pss_cons
        (ps_for pod rfl (pi_list (pv 3)) (pg_name (i := 4) sc_l_knows.nd rfl (Or.inl rfl))
          (pss_one
            (ps_if (pt_cmpR oSne (pe_slice sl_str (pe_ix ix_tup (pv 4) pe_int (fun _ _ => rfl)) po_none (po_some (pe_callB oLenX (by rfl) T.f_len PySem.boot_len (pa_cons (pv 2) pa_nil)))) (pv 2) (nomark _))
              (pss_one
                (ps_ret pe_bl))
              pss_nil)))
      (pss_one
        (ps_ret (pe_callS (ok_l_pairs T) (hr.mono (j := 1) (by decide)) rfl T.g_l_pairs T.k_l_pairs T.b_l_pairs (fun σ => L2N.passAt tkd σ) (pa_cons (pe_meth0S (pe_fldC T.cl_Line T.na_Line_ear (pv 0)) T.cl_Ear T.me_Ear_state (ok_Ear_state T) (hr.mono (j := 1) (by decide)) T.b_Ear_state (fun σ => L2N.passAt tkd σ)) (pa_cons (pv 3) pa_nil))))))), ?_⟩
    obtain ⟨l, p, FL, F, R, n, Ea, pre, rfl, hR, hL, nd, okk, px, zk, ze, es, k⟩ := h
    have sl := stands_len es
    obtain ⟨X, Fp, eF, S⟩ := id hR
    obtain ⟨em, dxx, hp⟩ := S.r .me
    repeat wtm_at "k"
    refine ⟨p, F, R, pre, 1000, rfl, hR, nd, px, zk, fun lr H1 ys nl e1 g1 py => ?_⟩
    have R1 : Run [] H1 H1 := Run.start Live.nil
    repeat wtm_at "k"
    rename_i d H2 u1 u2 u3 r2 g2 s2
    have x02 : Ext [] H H2 := e1.trans r2.ext
    have py2 := keepT r2.ext.tups py
    refine l_for (xs := ys) (SqL.of g2) (fun i σ' H' => H2 = H' ∧ ∃ x4, σ' = [some (.ref l), some (.ref p), some (.str pre), some (.ref d), x4]) ⟨rfl, _, rfl⟩ (fun i σ' H' _ q => by rw [← q.1]; exact SqL.of g2) (fun i v σ' H' ev q => ?_) fun σ' H' q => ?_
    · obtain ⟨rfl, x4, rfl⟩ := q
      obtain ⟨s, es', t, rfl, ht⟩ := getT py2 ev
      have ht : H2 t = some (.tup [.str s.k, .str s.v]) := ht
      have hb := pairs_begin okk (List.mem_of_getElem? es')
      have tk : Tx 1000 s.k := s.ok
      repeat wtm_at "k"
      rw [cut_begin, hb]
      refine k_iff ?_
      repeat wtm_at "k"
      exact ⟨rfl, _, rfl⟩
    · obtain ⟨rfl, x4, rfl⟩ := q
      have hL2 := hL.ext x02 (zero _)
      obtain ⟨dx, ea, Fe, eFL, h1, h2, h3⟩ := id hL2
      obtain ⟨pb, pr, dxe, bs, zs, eFe, q1, q2, q3, q4, q5, q6⟩ := id h2
      repeat wtm_at "k"
      refine ⟨ea, Fe, Ea, rfl, h2, ze, by omega, fun l9 H9 ys9 n9 e9 g9 p9 => ?_⟩
      rw [es] at p9
      repeat wtm_at "k"
      refine ⟨l9, d, ys9, ys, _, rfl, g9, SqL.of (e9.keep _ _ g2 (by simp)), p9, keepT e9.tups py2, fun H' e h => ?_⟩
      repeat wtm_at "k"
      exact k H' (x02.trans (e9.then e fun c hc => .inr (by rw [List.mem_singleton.mp hc]; exact n9)))
def sp_l_stand (K : PySem.W.Frag) : Sp := fun vs H Q _ => ∃ p m F G R n, vs = [.ref p, .ref m] ∧ RoomAt K H p F R ∧ MfX n m H G R ∧ (R.kept.map (·.1)).Nodup ∧ OkK R.kept ∧ R.kept.length ≤ 1000 ∧ ∀ H', Ext [] H H' → Q (.bl true) H'
theorem sc_l_stand : FnScope ["_law_room", "_law_m", "_law_found", "_law_key_here"] ["_law_room", "_law_m"] (defScope s_l_stand) := ⟨rfl, rfl, rfl, by decide +kernel, rfl, by decide +kernel, by decide +kernel⟩
theorem ok_l_stand (T : FX K mg) : FnOk P w K mg base (L2N.CX P w) 2 (He.ga K "_law_stand") (fdAt K ("_law_stand", none)) ["_law_room", "_law_m"] (sp_l_stand K) := by
  refine FunD.ok T.F_l_stand sc_l_stand (fun vs H Q E h => ?_) (fun cdv A outer s H vs Q E hr h => ?_)
  · (repeat (obtain ⟨_, h⟩ := h)); subst_vars; rfl
  · have hu := hu_of hr
    have hu64 := hr.units
    refine ⟨_,
      (pss_cons
        (ps_set (i := 2) sc_l_stand.nd rfl (Or.inl rfl) (pe_methS (pv 0) T.cl_Room T.me_Room_pairs (ok_Room_pairs T) (hr.mono (j := 1) (by decide)) T.b_Room_pairs (fun σ => L2N.passAt tkd σ) (pa_cons pe_str pa_nil)))
      (pss_cons
        (ps_lock (ps_for pod rfl (pi_keys (pe_dget hu (pv 1) pe_str (fun _ _ => rfl))) (pg_name (i := 3) sc_l_stand.nd rfl (Or.inl rfl))
          (pss_one
            (ps_if (PW.pt (pw_and (pt_cmpR oNno (pe_dget hu (pe_dget hu (pv 1) pe_str (fun _ _ => rfl)) (pv 3) (fun _ _ => rfl)) pe_non (nomark _)) (pw_and1 (pt_cmpR (op_notInD (hu65 hr)) (pe_tup (pa_cons (pv 3) (pa_cons (pe_dget hu (pe_dget hu (pv 1) pe_str (fun _ _ => rfl)) (pv 3) (fun _ _ => rfl)) pa_nil))) (pv 2) (by rfl)))))
              (pss_one
                (ps_ret pe_bl))
              pss_nil))))
      (pss_one
        (ps_ret pe_bl)))), ?_⟩
    obtain ⟨p, m, F, G, R, n, rfl, hR, ⟨fm, ⟨mi, eG, nmi, h1, h2⟩, e1, fr, lf⟩, nd, okk, zk, k⟩ := h
    obtain ⟨X, Fp, eF, S⟩ := id hR
    obtain ⟨em, dxx, hp⟩ := S.r .me
    repeat wtm_at "k"
    refine ⟨p, F, R, Str.empty, 0, rfl, hR, nd, Tx.nil, zk, fun lr H1 ys nl x1 g1 py => ?_⟩
    have h11 := x1.keep _ _ h1 (by simp)
    have h21 := x1.keep _ _ h2 (by simp)
    have nlm : lr ≠ mi := fun y => by rw [y, h2] at nl; cases nl
    repeat wtm_at "k"
    refine l_forS (V' := vo) h21 (fun od R' hR' => ?_) (fun od i σ' H' => ∃ x3, σ' = [some (.ref p), some (.ref m), some (.ref lr), x3] ∧ Ext [] (upd H1 mi (.frz od (.dK (sk vo fm)))) H') (fun od => ⟨_, rfl, Ext.refl _ _⟩) (fun od i σ' H' q => by obtain ⟨_, _, q⟩ := q; exact q.keep _ _ upd_same (by simp)) (fun od i p1 σ' H' rt' nx' ek q q1 => ?_) (fun od σ' H' q => ?_)
    · have a2 : upd H1 mi (.frz od (.dK (sk vo fm))) m = some _ := (upd_ne nmi).trans h11
      repeat wtm_at "k"
      exact hR'
    · obtain ⟨x3, rfl, xu⟩ := q
      have eu : Ext [mi] H1 (upd H1 mi (.frz od (.dK (sk vo fm)))) := Ext.write h21 (fun _ z => by cases z) (by simp)
      have x1u : Ext [mi] H1 H' := eu.trans (xu.sub (by simp))
      have a2 := x1u.keep _ _ h11 (by simpa using nmi)
      have a3 : H' mi = some _ := xu.keep _ _ upd_same (by simp)
      have a4 := x1u.keep _ _ g1 (by simpa using nlm)
      have p4 := keepT x1u.tups py
      have mk : p1.1 ∈ fm.map (·.1) := List.mem_map_of_mem (f := (·.1)) (List.mem_of_getElem? ek)
      have R4 : Run [] H' H' := Run.start Live.nil
      cases ea : aget fm p1.1 with
      | none => exact absurd mk (aget_none.mp ea)
      | some ov =>
        have ve : valV (sk vo fm) (Sum.inr p1.1 : Key) = some (vo p1.1 ov) := by rw [valV_sk, ea]; rfl
        cases ov with
        | none =>
          have ve : valV (sk vo fm) (Sum.inr p1.1 : Key) = some .non := ve
          repeat wtm_at "k"
          exact ⟨_, rfl, xu⟩
        | some v =>
          have ve : valV (sk vo fm) (Sum.inr p1.1 : Key) = some (.str v) := ve
          have hm := pairs_mem okk (fr _ _ ea)
          have tk : Tx 1000 p1.1 := (okk _ (aget_some_mem (fr _ _ ea))).1
          have tv : Tx 1000 v := (okk _ (aget_some_mem (fr _ _ ea))).2
          repeat wtm_at "k"
          rw [decide_eq_false (show ¬ (V.str v = V.non) from fun z => by cases z), Bool.not_false]
          repeat wtm_at "k"
          rename_i t H5 w1 w2 w3 r5 g5 s5
          refine l_notInT fS_plain ⟨t, rfl, g5⟩ (SqL.of (s5 _ _ a4)) (keepT r5.ext.tups p4) hm ?_
          repeat wtm_at "k"
          exact ⟨_, rfl, xu.trans r5.ext⟩
    · obtain ⟨x3, rfl, xu⟩ := q
      repeat wtm_at "k"
      refine k _ (x1.trans ⟨fun c o hc _ => ?_, fun c xs hc => ?_⟩)
      · by_cases z : c = mi
        · rw [z, upd_same, ← h21, ← z]; exact hc
        · rw [upd_ne z]; exact xu.keep _ _ ((upd_ne z).trans hc) (by simp)
      · have z : c ≠ mi := ne_of hc h21 fun z => by cases z
        rw [upd_ne z]; exact xu.tups _ _ ((upd_ne z).trans hc)
end
end LW

set_option maxHeartbeats 4000000
namespace LW
open PySem PySem.Spec PyProof.Rows L2
local macro_rules | `(tactic| wtm_at "vk") => `(tactic| first
  | assumption
  | with_reducible exact rv_mf_given
  | with_reducible exact rv_mf_free
  | exact valV_sv (by assumption)
  | exact valV_iv (by assumption)
  | fail)
local macro_rules | `(tactic| wtm_at "pk") => `(tactic| first
  | with_reducible exact putK_iv
  | with_reducible exact dropK_ik
  | with_reducible exact dropK_sk
  | with_reducible exact rp_mf_given
  | with_reducible exact rp_mf_free
  | exact putK_sv
  | assumption
  | fail)
local macro_rules | `(tactic| wtm_at "rm") => `(tactic| first
  | with_reducible exact rm_mf
  | exact rfl
  | fail)
local macro_rules | `(tactic| wtm_at "rl") => `(tactic| first
  | with_reducible exact rl_mf
  | with_reducible assumption
  | fail)
local macro_rules | `(tactic| wtm_at "lk") => `(tactic| with_reducible first
  | exact lk_Ear_behind
  | exact lk_Ear_begun
  | exact lk_Ear_rows
  | exact lk_Line_room
  | exact lk_Line_watcher
  | exact lk_Line_ear
  | exact lk_Leases_given
  | exact lk_Leases_spans
  | exact lk_Leases_ends
  | exact lk_Log_rows
  | exact lk_Log_gone
  | exact lk_Watcher_prefix
  | exact lk_Watcher_had
  | exact lk_Watcher_told
  | exact lk_Room_now
  | exact lk_Room_leases
  | exact lk_Room_log
  | exact lk_Room_kept
  | exact lk_Room_watchers
  | exact lk_Room_met
  | fail)
local macro_rules | `(tactic| wtm_at "lm") => `(tactic| with_reducible first
  | exact lm_Ear_hear
  | exact lm_Ear_heard
  | exact lm_Ear_state
  | exact lm_Line_turn
  | exact lm_Leases_grant
  | exact lm_Leases_need
  | exact lm_Leases_renew
  | exact lm_Leases_drop
  | exact lm_Leases_due
  | exact lm_Log_note
  | exact lm_Log_last
  | exact lm_Log_first
  | exact lm_Log_wanted
  | exact lm_Log_forget
  | exact lm_Room_grant
  | exact lm_Room_renew
  | exact lm_Room_drop
  | exact lm_Room_wait
  | exact lm_Room_free
  | exact lm_Room_put
  | exact lm_Room_cut
  | exact lm_Room_value
  | exact lm_Room_holder
  | exact lm_Room_pairs
  | exact lm_Room_last
  | exact lm_Room_first
  | exact lm_Room_watch
  | exact lm_Room_need
  | exact lm_Room_pull
  | exact lm_Room_confirm
  | exact lm_Room_broken
  | exact lm_Room_leave
  | exact lm_Room_trim
  | fail)
local macro_rules | `(tactic| wtm_at "pt") => `(tactic| with_reducible first
  | exact pt_Ear_behind
  | exact pt_Ear_begun
  | exact pt_Ear_rows
  | exact pi_Ear_0
  | exact pi_Ear_1
  | exact pi_Ear_2
  | exact pt_Line_room
  | exact pt_Line_watcher
  | exact pt_Line_ear
  | exact pi_Line_0
  | exact pi_Line_1
  | exact pi_Line_2
  | exact pt_Leases_given
  | exact pt_Leases_spans
  | exact pt_Leases_ends
  | exact pi_Leases_0
  | exact pi_Leases_1
  | exact pi_Leases_2
  | exact pt_Log_rows
  | exact pt_Log_gone
  | exact pi_Log_0
  | exact pi_Log_1
  | exact pt_Watcher_prefix
  | exact pt_Watcher_had
  | exact pt_Watcher_told
  | exact pi_Watcher_0
  | exact pi_Watcher_1
  | exact pi_Watcher_2
  | exact pt_Room_now
  | exact pt_Room_leases
  | exact pt_Room_log
  | exact pt_Room_kept
  | exact pt_Room_watchers
  | exact pt_Room_met
  | exact pi_Room_0
  | exact pi_Room_1
  | exact pi_Room_2
  | exact pi_Room_3
  | exact pi_Room_4
  | exact pi_Room_5
  | fail)
local macro_rules | `(tactic| wtm_at "lz") => `(tactic| with_reducible first
  | exact lz_Ear
  | exact lz_Line
  | exact lz_Leases
  | exact lz_Log
  | exact lz_Watcher
  | exact lz_Room
  | (simp only [List.length_cons, List.length_nil]; decide)
  | exact (by decide)
  | fail)
local macro_rules | `(tactic| wtm_at "hf") => `(tactic| first
  | assumption
  | (refine' hf_s ?hs ?hx; (case hs => assumption); (case hx => wtm_at "hf"))
  | (refine' hf_n ?hs ?hx ?ne; (case hs => assumption); (case hx => wtm_at "hf"); (case ne => wtm_at "ne"))
  | (refine' hf_e ?hs ?hx ?hy; (case hs => assumption); (case hx => wtm_at "hf"); (case hy => wtm_at "nin"))
  | fail)
local macro_rules | `(tactic| wtm_at "ne") => `(tactic| first
  | assumption
  | (apply Ne.symm; assumption)
  | (refine' ne_of_none ?hx ?hy; (case hy => assumption); (case hx => wtm_at "hf"))
  | (refine' (ne_of_none ?hx ?hy).symm; (case hy => assumption); (case hx => wtm_at "hf"))
  | (refine' ne_of ?hx ?hy ?hz; (case hx => assumption); (case hy => assumption); (case hz => intro z; cases z))
  | fail)
local macro_rules | `(tactic| wtm_at "nin") => `(tactic| first
  | assumption
  | exact notin_nil
  | (refine' notin_cons ?hx ?hy; (case hx => wtm_at "ne"); (case hy => wtm_at "nin"))
  | fail)
local macro_rules | `(tactic| wtm_at "mem") => `(tactic| first
  | assumption
  | exact List.mem_cons_self
  | (refine' List.mem_cons_of_mem _ ?hx; (case hx => wtm_at "mem"))
  | fail)
local macro_rules | `(tactic| wtm_at "wr") => `(tactic| first
  | exact Or.inr (by assumption)
  | exact Or.inl (by wtm_at "mem")
  | fail)
local macro_rules | `(tactic| wtm_at "lv") => `(tactic| first
  | assumption
  | exact Live.nil
  | (refine' Live.cons ?hx ?hy; (case hx => wtm_at "hf"); (case hy => wtm_at "lv"))
  | fail)
local macro_rules | `(tactic| wtm_at "run") => `(tactic| first
  | assumption
  | (refine' Run.same ?hx ?hy; (case hy => assumption); (case hx => wtm_at "run"))
  | fail)
local macro_rules | `(tactic| wtm_at "sq") => `(tactic| first
  | assumption
  | (refine' Run.seq ?hx ?hy; (case hx => assumption); (case hy => assumption))
  | (refine' SqL.of ?hx; (case hx => wtm_at "hf"))
  | (refine' Same.seq ?hx ?hy; (case hx => assumption); (case hy => wtm_at "sq"))
  | (refine' Ext.seqL ?hx ?hz ?hy; (case hx => assumption); (case hy => wtm_at "sq"); (case hz => wtm_at "nin"))
  | fail)
local macro_rules | `(tactic| wtm_at "st") => `(tactic| first
  | assumption
  | (refine' SqT.of ?hx; (case hx => wtm_at "hf"))
  | fail)
local macro_rules | `(tactic| wtm_at "ix") => `(tactic| first
  | assumption
  | exact rfl
  | fail)
local macro_rules | `(tactic| wtm_at "sz") => `(tactic| first
  | wtm_at "rl"
  | with_reducible assumption
  | (rw [ik_len]; wtm_at "sz")
  | (rw [sk_len]; wtm_at "sz")
  | exact smallM (by assumption)
  | exact smallM (by omega)
  | exact smallM (by simp only [List.length_cons, List.length_nil, List.length_append, List.length_map]; omega)
  | fail)
local macro_rules | `(tactic| wtm_at "tx") => `(tactic| first
  | assumption
  | ((with_reducible refine' Tx.app ?hx ?hy); (case hx => wtm_at "tx"); (case hy => wtm_at "tx"))
  | ((with_reducible refine' Tx.cut ?hx); (case hx => wtm_at "tx"))
  | with_reducible exact Tx.nil
  | fail)
local macro_rules | `(tactic| wtm_at "k") => `(tactic| first
  | with_reducible refine k_seq ?_
  | with_reducible refine k_next ?_
  | with_reducible refine k_asg ?_
  | with_reducible refine k_ret ?_
  | with_reducible refine k_retN ?_
  | with_reducible refine k_asgS ?_
  | ((with_reducible refine' l_setL ?hr ?hx ?he ?h2 ?hw ?_); (case hr => wtm_at "run"); (case hx => wtm_at "hf"); (case he => exact rfl); (case h2 => exact rfl); (case hw => wtm_at "wr"); intro _ _ _ _)
  | with_reducible refine k_minD ?_
  | with_reducible refine k_drop ?_
  | with_reducible refine k_ifS ?_
  | ((with_reducible refine' k_var ?hx ?_); (case hx => exact rfl))
  | with_reducible refine k_c ?_
  | with_reducible refine k_negc ?_
  | with_reducible refine k_neg ?_
  | with_reducible refine l_neg ?_
  | with_reducible refine k_op ?_
  | with_reducible refine k_cb ?_
  | with_reducible refine k_nil ?_
  | with_reducible refine k_cons ?_
  | with_reducible refine k_test ?_
  | with_reducible refine k_B ?_
  | with_reducible refine k_not ?_
  | with_reducible refine k_and ?_
  | with_reducible refine k_or ?_
  | with_reducible refine k_notV ?_
  | with_reducible refine k_andV ?_
  | with_reducible refine k_orV ?_
  | with_reducible refine k_bl ?_
  | with_reducible refine k_add ?_
  | with_reducible refine k_sub ?_
  | ((with_reducible refine' k_mod ?hx ?_); (case hx => first | decide | omega))
  | ((with_reducible refine' k_div ?hx ?_); (case hx => first | exact ⟨by decide, by decide⟩ | exact ⟨by omega, by omega⟩))
  | ((with_reducible refine' k_mul ?hx ?_); (case hx => first | exact Or.inl ⟨by decide, by decide⟩ | exact Or.inr ⟨by decide, by decide⟩ | exact Or.inl ⟨by omega, by omega⟩))
  | with_reducible refine k_chain ?_
  | with_reducible refine k_p6 ?_
  | with_reducible refine k_p9 ?_
  | with_reducible refine k_p12 ?_
  | with_reducible refine k_p13 ?_
  | with_reducible refine k_p18 ?_
  | with_reducible refine k_p30 ?_
  | with_reducible refine k_lt ?_
  | with_reducible refine k_le ?_
  | with_reducible refine k_gt ?_
  | with_reducible refine k_ge ?_
  | with_reducible refine k_eq ?_
  | with_reducible refine k_ne ?_
  | with_reducible refine k_seqS ?_
  | with_reducible refine k_neS ?_
  | with_reducible refine k_neB ?_
  | with_reducible refine k_isN ?_
  | with_reducible refine k_noN ?_
  | with_reducible refine k_fld ?_
  | ((with_reducible refine' l_fld ?hx ?hy ?_); (case hx => wtm_at "hf"); (case hy => wtm_at "lk"))
  | with_reducible refine k_fldS ?_
  | ((with_reducible refine' l_fldS ?hr ?hx ?hz ?hy ?hw ?_); (case hr => wtm_at "run"); (case hx => wtm_at "hf"); (case hy => wtm_at "pt"); (case hz => wtm_at "lz"); (case hw => wtm_at "wr"); intro _ _ _ _)
  | ((with_reducible refine' l_new ?hr ?_); (case hr => wtm_at "run"); intro _ _ _ _ _ _ _ _)
  | with_reducible refine k_append ?_
  | ((with_reducible refine' l_tyL ?hx ?_); (case hx => wtm_at "hf"))
  | ((with_reducible refine' l_ins ?hx ?hy ?_); (case hx => wtm_at "hf"); (case hy => wtm_at "lm"))
  | with_reducible refine k_methS ?_
  | with_reducible refine k_methG ?_
  | with_reducible refine k_makeG ?_
  | with_reducible refine k_meth0 ?_
  | with_reducible refine k_callS ?_
  | with_reducible refine k_callE ?_
  | with_reducible refine k_dget ?_
  | with_reducible refine k_din ?_
  | with_reducible refine k_dnotin ?_
  | with_reducible refine k_dput ?_
  | with_reducible refine k_dpop ?_
  | with_reducible refine k_dget2 ?_
  | with_reducible refine k_tup ?_
  | with_reducible refine k_lst ?_
  | with_reducible refine k_dnew ?_
  | ((with_reducible refine' l_tup ?hx ?_); (case hx => simp only [List.length_cons, List.length_nil]; decide))
  | ((with_reducible refine' l_lst ?hx ?_); (case hx => simp only [List.length_cons, List.length_nil]; decide))
  | ((with_reducible refine' l_isD ?hx ?_); (case hx => wtm_at "hf"))
  | ((with_reducible refine' l_dinI ?hx ?_); (case hx => wtm_at "hf"))
  | ((with_reducible refine' l_dinS ?hx ?_); (case hx => wtm_at "hf"))
  | ((with_reducible refine' l_dnotinI ?hx ?_); (case hx => wtm_at "hf"))
  | ((with_reducible refine' l_dnotinS ?hx ?_); (case hx => wtm_at "hf"))
  | ((with_reducible refine' l_dputI ?hr ?hx ?hz ?hy ?hw ?_); (case hr => wtm_at "run"); (case hx => wtm_at "hf"); (case hy => wtm_at "pk"); (case hz => wtm_at "sz"); (case hw => wtm_at "wr"); intro _ _ _ _)
  | ((with_reducible refine' l_dputS ?hr ?hx ?hz ?hy ?hw ?_); (case hr => wtm_at "run"); (case hx => wtm_at "hf"); (case hy => wtm_at "pk"); (case hz => wtm_at "sz"); (case hw => wtm_at "wr"); intro _ _ _ _)
  | ((with_reducible refine' l_dpopI ?hr ?hx ?hz ?hy ?hw ?_); (case hr => wtm_at "run"); (case hx => wtm_at "hf"); (case hy => wtm_at "pk"); (case hz => wtm_at "vk"); (case hw => wtm_at "wr"); intro _ _ _ _)
  | ((with_reducible refine' l_dpopS ?hr ?hx ?hz ?hy ?hw ?_); (case hr => wtm_at "run"); (case hx => wtm_at "hf"); (case hy => wtm_at "pk"); (case hz => wtm_at "vk"); (case hw => wtm_at "wr"); intro _ _ _ _)
  | ((with_reducible refine' l_dgetI ?hx ?hz ?_); (case hx => wtm_at "hf"); (case hz => wtm_at "vk"))
  | ((with_reducible refine' l_dgetS ?hx ?hz ?_); (case hx => wtm_at "hf"); (case hz => wtm_at "vk"))
  | ((with_reducible refine' l_dgetIF ?hx ?hz ?_); (case hx => wtm_at "hf"); (case hz => wtm_at "vk"))
  | ((with_reducible refine' l_dgetSF ?hx ?hz ?_); (case hx => wtm_at "hf"); (case hz => wtm_at "vk"))
  | ((with_reducible refine' l_dgetZ ?hx ?hz ?_); (case hx => wtm_at "hf"); (case hz => wtm_at "vk"))
  | ((with_reducible refine' k_disp ?hr ?_); (case hr => wtm_at "run"); intro _ _ _ _ _ _ _ _)
  | with_reducible refine k_pcons ?_
  | with_reducible refine k_pnil ?_
  | ((with_reducible refine' l_disp ?hr ?hx ?hu ?hv ?hy ?hw ?_); (case hr => wtm_at "run"); (case hx => wtm_at "hf"); (case hu => exact rfl); (case hv => simp only [List.length_map, List.length_cons, List.length_nil]; decide); (case hy => wtm_at "rm"); (case hw => wtm_at "wr"); intro _ _ _ _)
  | ((with_reducible refine' l_append ?hr ?hx ?hz ?hw ?_); (case hr => wtm_at "run"); (case hx => wtm_at "hf"); (case hz => wtm_at "sz"); (case hw => wtm_at "wr"); intro _ _ _ _)
  | ((with_reducible refine' l_isEt ?hx ?_); (case hx => first | exact isD (ExcK.kit (by assumption) _ (by wtm_at "mem") _ (by wtm_at "mem")) | exact isC (ExcK.kit (by assumption) _ (by wtm_at "mem") _ (by wtm_at "mem")) (by decide)))
  | ((with_reducible refine' l_isEV ?hx ?_); (case hx => exact ExcK.kitV (by assumption) _ (by wtm_at "mem")))
  | ((with_reducible refine' l_isiI ?hx ?_); (case hx => first | rfl | assumption))
  | ((with_reducible refine' l_isiB ?hx ?_); (case hx => first | rfl | assumption))
  | with_reducible refine l_isiSS ?_
  | ((with_reducible refine' l_isiS ?hx ?_); (case hx => first | rfl | assumption))
  | ((with_reducible refine' l_isiL ?hx ?_); (case hx => wtm_at "hf"))
  | ((with_reducible refine' l_isiO ?hx ?hy ?hz ?_); (case hx => wtm_at "hf"); (case hy => assumption); (case hz => assumption))
  | ((with_reducible refine' l_isiT ?hx ?_); (case hx => wtm_at "hf"))
  | ((with_reducible refine' l_lenL ?hx ?_); (case hx => wtm_at "sq"))
  | ((with_reducible refine' l_lenT ?hx ?_); (case hx => wtm_at "st"))
  | ((with_reducible refine' l_lenDK ?hx ?_); (case hx => wtm_at "hf"))
  | ((with_reducible refine' l_ixL ?hx ?hy ?_); (case hx => wtm_at "sq"); (case hy => wtm_at "ix"))
  | ((with_reducible refine' l_ixT ?hx ?hy ?_); (case hx => wtm_at "st"); (case hy => wtm_at "ix"))
  | with_reducible refine k_m1 ?_
  | with_reducible refine l_strX ?_
  | with_reducible refine l_sw ?_
  | ((with_reducible refine' x_addS ?hx ?hy ?hz ?_); (case hx => wtm_at "tx"); (case hy => wtm_at "tx"); (case hz => decide))
  | ((with_reducible refine' x_slS ?hx ?hz ?_); (case hx => wtm_at "tx"); (case hz => decide))
  | ((with_reducible refine' x_lenX ?hx ?hz ?_); (case hx => wtm_at "tx"); (case hz => decide))
  | with_reducible refine l_max ?_
  | with_reducible refine l_min ?_
  | with_reducible refine l_abs ?_
  | with_reducible refine k_sl ?_
  | with_reducible refine k_part ?_
  | with_reducible refine l_part ?_
  | with_reducible refine k_nopart ?_
  | with_reducible refine k_yes ?_
  | ((with_reducible refine' l_slL ?hr ?hx ?_); (case hr => wtm_at "run"); (case hx => wtm_at "sq"); intro _ _ _ _ _ _ _ _)
  | with_reducible refine k_lcL ?_
  | with_reducible refine k_lcR ?_
  | with_reducible refine k_for ?_
  | with_reducible refine k_zip ?_
  | with_reducible refine k_rng1 ?_
  | with_reducible refine k_rng2 ?_
  | with_reducible refine k_rng3 ?_
  | with_reducible refine k_makeS ?_
  | ((with_reducible refine' l_make ?hr ?_); (case hr => wtm_at "run"); intro _ _ _ _ _ _ _ _ _)
  | with_reducible refine k_ntt ?_
  | with_reducible refine k_ntf ?_
  | with_reducible refine k_clear ?_
  | ((with_reducible refine' l_clear ?hr ?hx ?hw ?_); (case hr => wtm_at "run"); (case hx => wtm_at "hf"); (case hw => wtm_at "wr"); intro _ _ _ _)
  | with_reducible refine k_ift ?_
  | with_reducible refine k_iff ?_
  | with_reducible refine g_name ?_
  | with_reducible refine k_revL ?_
  | ((with_reducible refine' l_tupL ?hx ?_); (case hx => wtm_at "sq"))
  | with_reducible refine l_intB ?_
  | ((with_reducible refine' l_rev ?hx ?_); (case hx => wtm_at "sq"))
  | ((with_reducible refine' l_gT2 ?hn ?hx ?_); (case hn => exact rfl); (case hx => wtm_at "st"))
  | ((with_reducible refine' l_listL ?hx ?_); (case hx => wtm_at "sq"))
  | ((with_reducible refine' l_listT ?hx ?_); (case hx => wtm_at "st"))
  | fail)
local macro_rules | `(tactic| wtm_at "k") => `(tactic| first
  | with_reducible refine k_wholeI ?_
  | ((with_reducible refine' k_whole ?hx ?_); (case hx => first | rfl | assumption))
  | ((with_reducible refine' k_cell ?hx ?hy ?_); (case hx => first | decide | omega | assumption); (case hy => wtm_at "sq"))
  | fail)
abbrev fLN (s : LineS) : List V := [.ref s.l, .str s.pre]
theorem begins_z {x z : Str} (h : x.length ≤ 20) : begins (cutS (x ++ z) none (some 20)) x = true := by
  unfold begins cutS
  rw [HT.sIx_none, show (some (20 : Int)) = some ((20 : Nat) : Int) from rfl, HT.sIx_nat]
  refine decide_eq_true ?_
  show ((((x ++ z).cps.toList.drop 0).take (min 20 (x ++ z).length - 0))).take x.length = x.cps.toList
  have e : (x ++ z).cps.toList = x.cps.toList ++ z.cps.toList := by show (x.cps ++ z.cps).toList = _; exact Array.toList_append
  have l := len_app x z
  rw [e, List.drop_zero, List.take_take, show min x.length (min 20 (x ++ z).length - 0) = x.length by omega]
  exact List.take_left' (len_toList x)
theorem wants_new {rows : List Row} {pre : Str} (nm : Num 0 rows) : wants rows pre (rows.length + 1) = [] := by
  unfold wants
  refine List.filter_eq_nil_iff.mpr fun r hr => ?_
  have := num_le nm hr
  rw [decide_eq_false (show ¬ ((rows.length : Int) + 1 ≤ r.n) by omega)]
  simp
theorem fresh_hear {R : RoomS} {rows W : List Row} {g : Int} {s : LineS} {b : List SS} (J : Jl R.G ⟨rows, g⟩) (inv : LInv rows g s) (hE : s.E = ⟨s.start - 1, b, []⟩) (hx : s.x.had = s.start - 1) (w : wants rows s.pre s.start = W) (l : W.length ≤ 1) : (s.E.hear (cutL 0 (pulled R s.x 1))).rows = W := by
  have st : ∀ r ∈ W, s.start ≤ r.n := fun r hr => by
    rw [← w] at hr
    have := (List.mem_filter.mp hr).2
    rw [Bool.and_eq_true, decide_eq_true_eq] at this
    exact this.1
  have e1 : pulled R s.x 1 = W := by
    rw [pulled_eq J inv, w, hx]
    have f : W.filter (fun r => decide (s.start - 1 < r.n)) = W := List.filter_eq_self.mpr fun r hr => decide_eq_true (by have := st r hr; omega)
    rw [f]
    exact List.take_of_length_le l
  have rW : Rise W := by rw [← w]; exact wants_rise J.nm
  rw [e1, show cutL 0 W = W from rfl, hear_rise rW, hE]
  show [] ++ W.filter (fun r => decide (s.start - 1 < r.n)) = W
  rw [List.nil_append]
  exact List.filter_eq_self.mpr fun r hr => decide_eq_true (by have := st r hr; omega)
theorem bg_set {rows : List Row} {ls : List LineS} {i : Nat} {s : LineS} {E' : EarS} {x' : WatS} (h : ∀ q ∈ ls, BegOk rows q) (hi : ls[i]? = some s) (eb : E'.begun = s.E.begun) : ∀ q ∈ ls.set i { s with E := E', x := x' }, BegOk rows q := fun q hq => by
  rcases List.mem_or_eq_of_mem_set hq with z | z
  · exact h q z
  · obtain ⟨h1, h2, h3, h4⟩ := h s (List.mem_of_getElem? hi)
    rw [z]
    refine ⟨h1, h2, ?_, ?_⟩
    · show E'.begun.length ≤ 1000
      rw [eb]; exact h3
    · show Part s.pre (stBeg E'.begun) _
      rw [eb]; exact h4
section
variable {P : Program} {w : World} {K : PySem.W.Frag} {mg : Str → Option Value} {base : Heap}
theorem turn10 {fL : LineS → List V} {p m la pp : Addr} {ts : List Str} {H0 H : Hp} {n : Nat} {F G : List Addr} {R : RoomS} {rows : List Row} {g : Int} {ml : List (Int × Row)} {ls : List LineS} {tl : List V} {i : Nat} {s : LineS} {most luck : Int} {Q : VK} {E : XK} (z : Z9 K fL p m la pp ts H0 n H F G R rows g ml ls tl)
    (hi : ls[i]? = some s) (fk : ∀ E' x', fL { s with E := E', x := x' } = fL s) (zn : n ≤ 1000) (m0 : 0 ≤ most)
    (f : ∀ H' E' x', Z9 K fL p m la pp ts H0 n H' F G (R.setW ((i : Int) + 1) x') rows g ml (ls.set i { s with E := E', x := x' }) tl → E' = s.E.hear (cutL luck (pulled R s.x most)) → E'.begun = s.E.begun → (luck = 0 → (rows.length : Int) < most → x'.had = rows.length) → Ext (F ++ s.FL) H H' → Q (.int (E'.rows.length - s.E.rows.length)) H') : sp_Line_turn K [.ref s.l, .int most, .int luck] H Q E := by
  have ms := List.mem_of_getElem? hi
  obtain ⟨fr, h1, h2, h3, h4, h5⟩ := (z.inv s ms).turn (luck := luck) z.s.hs.jl m0
  obtain ⟨b1, b2, b3⟩ := z.s.hs.bd
  have bm := z.s.bd.ml
  have lE : s.E.rows.length ≤ rows.length := by
    rw [(z.inv s ms).er]
    exact Nat.le_trans (List.length_filter_le _ _) (List.length_filter_le _ _)
  have gx : aget R.ws ((i : Int) + 1) = some s.x := by rw [z.ws, show (i : Int) + 1 = 1 + i by omega]; exact wsOf_get hi
  refine ⟨s.l, p, F, s.FL, R, (i : Int) + 1, s.E, most, luck, rfl, z.s.hR, z.ln i s hi, fun c hc y => z.aD s ms c (List.mem_append.mpr (.inl hc)) y, z.wok, by omega, by omega, fun x ex H' E' eE hR' hL' e => ?_, fun y => by rw [gx] at y; cases y⟩
  rw [gx] at ex
  obtain rfl := Option.some.inj ex
  exact f H' E' _ (z.turn hi (fk _ _) hR' hL' e (by rw [eE, h1]; exact h4)) eE (by rw [eE, h1]) h5 e
theorem Z9.kz {fL : LineS → List V} {p m la pp : Addr} {ts : List Str} {H0 H : Hp} {n : Nat} {F G : List Addr} {R : RoomS} {rows : List Row} {g : Int} {ml : List (Int × Row)} {ls : List LineS} {tl : List V} (z : Z9 K fL p m la pp ts H0 n H F G R rows g ml ls tl) (zn : n ≤ 200) : R.kept.length ≤ 1000 ∧ rows.length ≤ 1000 := by
  obtain ⟨b1, b2, b3⟩ := z.s.hs.bd
  have bm := z.s.bd.ml
  omega
/-- an ear that has had all knows what stands -/
theorem knows10 {fL : LineS → List V} {p m la pp : Addr} {ts : List Str} {H0 H : Hp} {n : Nat} {F G : List Addr} {R : RoomS} {rows : List Row} {g : Int} {ml : List (Int × Row)} {ls : List LineS} {tl : List V} {i : Nat} {s : LineS} {Q : VK} {E : XK} (z : Z9 K fL p m la pp ts H0 n H F G R rows g ml ls tl)
    (hi : ls[i]? = some s) (zn : n ≤ 200) (bg : ∀ q ∈ ls, BegOk rows q) (full : s.E.rows = wants rows s.pre s.start) (k : ∀ H', Ext [] H H' → Q (.bl true) H') : sp_l_knows K [.ref s.l, .ref p, .str s.pre] H Q E := by
  obtain ⟨k1, k2⟩ := z.kz zn
  have o := bg s (List.mem_of_getElem? hi)
  have lw : (wants rows s.pre s.start).length ≤ rows.length := List.length_filter_le _ _
  refine ⟨s.l, p, s.FL, F, R, (i : Int) + 1, s.E, s.pre, rfl, z.s.hR, z.ln i s hi, z.s.hs.nk, z.s.hs.ok, s.px, k1, ?_, BegOk.knows z.s.hs o full, k⟩
  obtain ⟨_, _, o3, _⟩ := o
  rw [full]
  omega
theorem stand10 {fL : LineS → List V} {p m la pp : Addr} {ts : List Str} {H0 H : Hp} {n : Nat} {F G : List Addr} {R : RoomS} {rows : List Row} {g : Int} {ml : List (Int × Row)} {ls : List LineS} {tl : List V} {Q : VK} {E : XK} (z : Z9 K fL p m la pp ts H0 n H F G R rows g ml ls tl)
    (zn : n ≤ 200) (k : ∀ H', Ext [] H H' → Q (.bl true) H') : sp_l_stand K [.ref p, .ref m] H Q E :=
  ⟨p, m, F, G, R, n, rfl, z.s.hR, z.s.hM, z.s.hs.nk, z.s.hs.ok, (z.kz zn).1, k⟩
def sp_l_begun (K : PySem.W.Frag) : Sp := fun vs H Q _ => ∃ (p m la pp : Addr) (ts : List Str) (H0 : Hp) (n : Nat) (F G : List Addr) (R : RoomS) (rows : List Row) (g : Int) (ml : List (Int × Row)) (ls : List LineS) (tl : List V) (i : Nat) (s : LineS) (c cnt : Int) (b : List SS), vs = [.ref p, .ref m, .ref s.l, .str s.pre, .int c, .int cnt] ∧ Z9 K fLN p m la pp ts H0 n H F G R rows g ml ls tl ∧ ls[i]? = some s ∧ i + 1 = ls.length ∧ s.start = rows.length + 1 ∧ s.E = ⟨s.start - 1, b, []⟩ ∧ s.x.had = s.start - 1 ∧ cnt = ls.length ∧ n ≤ 90 ∧ (∀ q ∈ ls, BegOk rows q) ∧ Tx 20 s.pre ∧
  ∀ H' F' R' rows' g' ml' ls', Z9 K fLN p m la pp ts H0 (n + 1) H' F' G R' rows' g' ml' ls' tl → (∀ q ∈ ls', BegOk rows' q) → ls'.length = ls.length → (∃ E' x', ls'[i]? = some { s with E := E', x := x' } ∧ (c % 4 ≠ 1 → E'.rows = wants rows' s.pre s.start)) → Ext (F ++ G ++ s.FL) H H' → Q (.bl true) H'
theorem sc_l_begun : FnScope ["_law_room", "_law_m", "_law_line", "_law_prefix_here", "_law_cell", "_law_count", "_law_many", "_law_key_here", "_law_before", "_law_kept"] ["_law_room", "_law_m", "_law_line", "_law_prefix_here", "_law_cell", "_law_count"] (defScope s_l_begun) := ⟨rfl, rfl, rfl, by decide +kernel, rfl, by decide +kernel, by decide +kernel⟩
theorem ok_l_begun (T : FX K mg) : FnOk P w K mg base (L2N.CX P w) 8 (He.ga K "_law_begun") (fdAt K ("_law_begun", none)) ["_law_room", "_law_m", "_law_line", "_law_prefix_here", "_law_cell", "_law_count"] (sp_l_begun K) := by
  refine FunD.ok T.F_l_begun sc_l_begun (fun vs H Q E h => ?_) (fun cdv A outer s H vs Q E hr h => ?_)
  · (repeat (obtain ⟨_, h⟩ := h)); subst_vars; rfl
  · have hu := hu_of hr
    have hu64 := hr.units
    refine ⟨_,
      (pss_cons
        (ps_set (i := 6) sc_l_begun.nd rfl (Or.inl rfl) (pe_op oIadd (pe_meth0S (pv 0) T.cl_Room T.me_Room_last (ok_Room_last T) (hr.mono (j := 2) (by decide)) T.b_Room_last (fun σ => L2N.passAt tkd σ)) pe_int))
      (pss_cons
        (ps_if (pt_cmpR oIeq (pe_op oImod (pv 4) pe_int) pe_int (nomark _))
          (pss_one
            (ps_ret (pe_and (pe_cmpR oIeq (pe_methS (pv 2) T.cl_Line T.me_Line_turn (ok_Line_turn T) (hr.mono (j := 3) (by decide)) T.b_Line_turn (fun σ => L2N.passAt tkd σ) (pa_cons (pv 6) (pa_cons pe_int pa_nil))) pe_int (nomark _)) (pe_one (pe_cmpR (op_eqD hu64) (pe_meth0S (pe_fldC T.cl_Line T.na_Line_ear (pv 2)) T.cl_Ear T.me_Ear_heard (ok_Ear_heard T) (hr.mono (j := 1) (by decide)) T.b_Ear_heard (fun σ => L2N.passAt tkd σ)) (pe_lst pa_nil) (nomark _))))))
          pss_nil)
      (pss_cons
        (ps_if (pt_cmpR oIeq (pe_op oImod (pv 4) pe_int) pe_int (nomark _))
          (pss_cons
            (ps_set (i := 7) sc_l_begun.nd rfl (Or.inl rfl) (pe_slice sl_str (pe_op oSadd (pv 3) pe_str) po_none (po_some pe_int)))
          (pss_cons
            (ps_set (i := 8) sc_l_begun.nd rfl (Or.inl rfl) (pe_meth0S (pv 0) T.cl_Room T.me_Room_last (ok_Room_last T) (hr.mono (j := 2) (by decide)) T.b_Room_last (fun σ => L2N.passAt tkd σ)))
          (pss_cons
            (ps_expr (pe_callS (ok_l_did T) (hr.mono (j := 7) (by decide)) rfl T.g_l_did T.k_l_did T.b_l_did (fun σ => L2N.passAt tkd σ) (pa_cons (pv 0) (pa_cons (pv 1) (pa_cons (pe_tup (pa_cons pe_str (pa_cons (pv 7) (pa_cons pe_str (pa_cons pe_int pa_nil))))) pa_nil)))))
          (pss_one
            (ps_ret (pe_cmpR oIeq (pe_methS (pv 2) T.cl_Line T.me_Line_turn (ok_Line_turn T) (hr.mono (j := 3) (by decide)) T.b_Line_turn (fun σ => L2N.passAt tkd σ) (pa_cons pe_int (pa_cons pe_int pa_nil))) (pe_op oIsub (pe_meth0S (pv 0) T.cl_Room T.me_Room_last (ok_Room_last T) (hr.mono (j := 2) (by decide)) T.b_Room_last (fun σ => L2N.passAt tkd σ)) (pv 8)) (nomark _)))))))
          pss_nil)
      (pss_cons
        (ps_if (PW.pt (pw_and (pt_cmpR oIeq (pe_op oImod (pv 4) pe_int) pe_int (nomark _)) (pw_and1 (pt_cmpR oIeq (pv 5) pe_int (nomark _)))))
          (pss_cons
            (ps_set (i := 9) sc_l_begun.nd rfl (Or.inl rfl) (pe_op oIsub (pv 6) (pe_meth0S (pv 0) T.cl_Room T.me_Room_first (ok_Room_first T) (hr.mono (j := 2) (by decide)) T.b_Room_first (fun σ => L2N.passAt tkd σ))))
          (pss_one
            (ps_ret (pe_and (pe_cmpR oIeq (pe_meth0S (pv 0) T.cl_Room T.me_Room_trim (ok_Room_trim T) (hr.mono (j := 2) (by decide)) T.b_Room_trim (fun σ => L2N.passAt tkd σ)) (pv 9) (nomark _)) (pe_one (pe_cmpR oIeq (pe_meth0S (pv 0) T.cl_Room T.me_Room_first (ok_Room_first T) (hr.mono (j := 2) (by decide)) T.b_Room_first (fun σ => L2N.passAt tkd σ)) (pv 6) (nomark _)))))))
          pss_nil)
      (pss_one
        (ps_ret pe_bl)))))), ?_⟩
    obtain ⟨p, m, la, pp, ts, H0, n, F, G, R, rows, g, ml, ls, tl, i, s, c, cnt, b, rfl, z, hi, il, est, eE, ex, rfl, zn, bg, tp, k⟩ := h
    have ms := List.mem_of_getElem? hi
    have li := (List.getElem?_eq_some_iff.mp hi).1
    obtain ⟨fm, hM, _⟩ := id z.s.hM
    obtain ⟨mi, eG, nmi, h1, h2⟩ := id hM
    obtain ⟨X, Fp, eF, S⟩ := id z.s.hR
    obtain ⟨em, dxr, hp⟩ := S.r .me
    have egone : R.G.gone = g := z.s.hs.jl.gn
    have elast : R.G.last = rows.length := z.s.hs.last
    have nm : Num 0 rows := z.s.hs.jl.nm
    have w0 : wants rows s.pre s.start = [] := by rw [est]; exact wants_new nm
    have er0 : s.E.rows = [] := by rw [eE]
    have hL0 := z.ln i s hi
    obtain ⟨dx0, ea0, Fe0, eFL0, q1, q2, q3⟩ := id hL0
    have R0 : Run [] H H := Run.start Live.nil
    have wa : ∀ {c : Addr}, c ∈ F ++ s.FL → c ∈ F ++ G ++ s.FL := fun h => (List.mem_append.mp h).elim (fun y => List.mem_append.mpr (.inl (List.mem_append.mpr (.inl y)))) fun y => List.mem_append.mpr (.inr y)
    have wb : ∀ {c : Addr}, c ∈ F ++ G → c ∈ F ++ G ++ s.FL := fun h => List.mem_append.mpr (.inl h)
    have wc : ∀ {c : Addr}, c ∈ F → c ∈ F ++ G ++ s.FL := fun h => wb (List.mem_append.mpr (.inl h))
    repeat wtm_at "k"
    refine ⟨p, F, R, rfl, z.s.hR, ?_⟩
    rw [elast]
    repeat wtm_at "k"
    refine k_ifd (fun d1 => ?_) fun d1 => ?_
    · repeat wtm_at "k"
      refine turn10 z hi (fun _ _ => rfl) (by omega) (by omega) fun H1 E1 x1 z1 eE1 eb had xx => ?_
      have had := had rfl (by omega)
      have lS : (ls.set i { s with E := E1, x := x1 })[i]? = some { s with E := E1, x := x1 } := List.getElem?_set_self li
      have full : E1.rows = wants rows s.pre s.start := (z1.inv _ (List.mem_of_getElem? lS)).all z1.s.hs.jl.nm had
      have er1 : E1.rows = [] := full.trans w0
      have hL1 := z1.ln i _ lS
      obtain ⟨dx1, ea1, Fe1, eFL1, y1, y2, y3⟩ := id hL1
      obtain ⟨pb, pr, dxe, bs, zs0, eFe, v1, v2, v3, v4, v5, v6⟩ := id y2
      repeat wtm_at "k"
      rw [decide_eq_true (show ((E1.rows.length : Int) - s.E.rows.length = 0) by rw [er1, er0]; rfl)]
      repeat wtm_at "k"
      refine ⟨ea1, Fe1, E1, rfl, y2, fun lr H2 ys n2 e2 g2 p2 => ?_⟩
      have R2 : Run [] H2 H2 := Run.start Live.nil
      repeat wtm_at "k"
      rename_i l0 H3 u1 u2 u3 r3 g3 s3
      refine l_eqT0 fR_plain (SqL.of (s3 _ _ g2)) (SqL.of g3) (keepT r3.ext.tups p2) ?_
      rw [er1]
      repeat wtm_at "k"
      exact k H3 F _ rows g ml _ ((z1.same (e2.trans r3.ext)).mono (Nat.le_succ _)) (bg_set bg hi eb) (by rw [List.length_set]) ⟨E1, x1, lS, fun _ => full⟩ ((xx.sub fun c hc => wa hc).trans ((e2.trans r3.ext).sub (by simp)))
    repeat wtm_at "k"
    refine k_ifd (fun d2 => ?_) fun d2 => ?_
    · have tz : Tx 1 ("z" : Str) := ⟨by decide +kernel, by decide +kernel⟩
      have ta : Tx 1000 ("a" : Str) := ⟨by decide +kernel, by decide +kernel⟩
      repeat wtm_at "k"
      refine ⟨p, F, R, rfl, z.s.hR, ?_⟩
      rw [elast]
      repeat wtm_at "k"
      rename_i t H1 u1 u2 u3 r1 g1 s1
      generalize ekey : cutS (s.pre ++ "z") none (some 20) = key at *
      have tk : Tx 1000 key := by rw [← ekey]; exact Tx.mono (by wtm_at "tx") (by decide)
      have hb : begins key s.pre = true := by rw [← ekey]; exact begins_z tp.le
      have z1 := z.same r1.ext
      refine did9 z1.s (by omega) ⟨t, rfl, g1⟩ (d := .put key "a" 0) ⟨tk, ta⟩ fun H2 R2 ext ml2 s2 w2 m2 x2 hA hB => ?_
      have z2 := z1.did s2 w2 m2 x2
      have ew : wants (rows ++ ext) s.pre s.start = ext ∧ ext.length ≤ 1 := by
        by_cases hn : R.ref (.put key "a" 0) = none
        · have hB := hB hn
          have j2 := s2.hs.jl
          rw [hB] at j2
          have e := ext_put z.s.hs.jl j2
          have er : (ntOf R.now "put" key "a").row (R.G.last + 1) = ⟨R.G.last + 1, R.now, "put", key, "a", tx_put, tk, ta⟩ := by rw [ntOf_eq tx_put tk ta]; rfl
          rw [er] at e
          refine ⟨?_, by rw [e]; exact Nat.le_refl _⟩
          have a1 : wants (rows ++ ext) s.pre s.start = wants rows s.pre s.start ++ wants ext s.pre s.start := List.filter_append ..
          rw [a1, w0, List.nil_append, e]
          unfold wants
          rw [List.filter_cons, if_pos]
          · rfl
          · show (decide (s.start ≤ R.G.last + 1) && begins key s.pre) = true
            rw [decide_eq_true (by rw [elast]; omega), hb]; rfl
        · have hA := (hA hn).2
          rw [hA, List.append_nil]
          exact ⟨w0, Nat.zero_le _⟩
      have el2 : R2.G.last = ((rows ++ ext).length : Int) := s2.hs.last
      obtain ⟨X2, Fp2, eF2, S2⟩ := id z2.s.hR
      obtain ⟨em2, dxr2, hp2⟩ := S2.r .me
      obtain ⟨dx2, ea2, Fe2, eFL2, y1, y2, y3⟩ := id (z2.ln i s hi)
      repeat wtm_at "k"
      refine turn10 z2 hi (fun _ _ => rfl) (by omega) (by omega) fun H3 E3 x3 z3 eE3 eb had xx => ?_
      have fh : E3.rows = ext := by rw [eE3]; exact fresh_hear s2.hs.jl (z2.inv s ms) eE ex ew.1 ew.2
      obtain ⟨X3, Fp3, eF3, S3⟩ := id z3.s.hR
      obtain ⟨em3, dxr3, hp3⟩ := S3.r .me
      repeat wtm_at "k"
      refine ⟨p, F, _, rfl, z3.s.hR, ?_⟩
      have el3 : (R2.setW ((i : Int) + 1) x3).G.last = ((rows ++ ext).length : Int) := el2
      rw [el3]
      repeat wtm_at "k"
      have lS : (ls.set i { s with E := E3, x := x3 })[i]? = some { s with E := E3, x := x3 } := List.getElem?_set_self li
      rw [decide_eq_true (show ((E3.rows.length : Int) - s.E.rows.length = ((rows ++ ext).length : Int) - rows.length) by rw [fh, er0, List.length_append]; show (ext.length : Int) - (0 : Nat) = _; omega)]
      exact k H3 F _ _ g ml2 _ z3 (bg_set (fun q hq => (bg q hq).grow) hi eb) (by rw [List.length_set]) ⟨E3, x3, lS, fun c => absurd d2 c⟩ (((r1.ext.sub (by simp)).trans (x2.sub fun c hc => wb hc)).trans (xx.sub fun c hc => wa hc))
    have fin : ∀ H', Ext [] H H' → Q (.bl true) H' := fun H' e => k H' F R rows g ml ls ((z.same e).mono (Nat.le_succ _)) bg rfl ⟨s.E, s.x, hi, fun _ => by rw [er0, w0]⟩ (e.sub (by simp))
    repeat wtm_at "k"
    refine k_ifd (fun d3 => ?_) fun d3 => ?_
    · repeat wtm_at "k"
      refine k_ifd (fun d4 => ?_) fun d4 => ?_
      · repeat wtm_at "k"
        refine ⟨p, F, R, rfl, z.s.hR, ?_⟩
        rw [egone]
        repeat wtm_at "k"
        refine ⟨p, F, R, rfl, z.s.hR, z.wok, by rw [z.ws, wsOf_len]; have := z.lz; omega, by have := z.s.hs.bd; have := z.s.bd.ml; omega, fun u u1 u2 u3 H2 F2 hR2 gr2 x2 => ?_⟩
        obtain ⟨z2, em2⟩ := z.trim u1 u2 u3 hR2 gr2 x2
        have l1 : ls = [s] := by
          match ls, hi, il, d4 with
          | [q], hi, il, _ =>
            have : i = 0 := by simpa using il
            subst this
            rw [Option.some.inj (show some q = some s from hi)]
          | [], hi, _, _ => cases hi
          | a :: b :: r, _, _, d4 => exact absurd d4 (by simp only [List.length_cons]; omega)
        have eu : u = rows.length := by
          have nn : R.ws ≠ [] := by rw [z.ws, l1]; exact fun y => by cases y
          obtain ⟨x, hx, e⟩ := u2 nn
          rw [z.ws, l1] at hx
          obtain ⟨q, hq, e2⟩ := wsOf_mem hx
          rw [List.mem_singleton.mp hq] at e2
          rw [e, e2, ex, est]
          omega
        have gl : g ≤ (rows.length : Int) := z.s.hs.jl.gl
        have em3 : max 0 (u - g) = (rows.length : Int) - g := by omega
        rw [em2]
        obtain ⟨X2, Fp2, eF2, S2⟩ := id z2.s.hR
        obtain ⟨em4, dxr2, hp2⟩ := S2.r .me
        repeat wtm_at "k"
        rw [decide_eq_true (show max 0 (u - g) = (rows.length : Int) + 1 - (g + 1) by omega)]
        repeat wtm_at "k"
        refine ⟨p, F2, _, rfl, z2.s.hR, ?_⟩
        have eg2 : (R.G.forget u).gone = g + max 0 (u - g) := z2.s.hs.jl.gn
        rw [eg2]
        repeat wtm_at "k"
        rw [decide_eq_true (show g + max 0 (u - g) + 1 = (rows.length : Int) + 1 by omega)]
        exact k H2 F2 _ rows _ ml ls (z2.mono (Nat.le_succ _)) bg rfl ⟨s.E, s.x, hi, fun _ => by rw [er0, w0]⟩ (x2.sub fun c hc => wc hc)
      · repeat wtm_at "k"
        exact fin _ (Ext.refl _ _)
    · repeat wtm_at "k"
      exact fin _ (Ext.refl _ _)
end
end LW

set_option maxHeartbeats 4000000
namespace LW
open PySem PySem.Spec PyProof.Rows L2
local macro_rules | `(tactic| wtm_at "vk") => `(tactic| first
  | assumption
  | with_reducible exact rv_mf_given
  | with_reducible exact rv_mf_free
  | exact valV_sv (by assumption)
  | exact valV_iv (by assumption)
  | fail)
local macro_rules | `(tactic| wtm_at "pk") => `(tactic| first
  | with_reducible exact putK_iv
  | with_reducible exact dropK_ik
  | with_reducible exact dropK_sk
  | with_reducible exact rp_mf_given
  | with_reducible exact rp_mf_free
  | exact putK_sv
  | assumption
  | fail)
local macro_rules | `(tactic| wtm_at "rm") => `(tactic| first
  | with_reducible exact rm_mf
  | exact rfl
  | fail)
local macro_rules | `(tactic| wtm_at "rl") => `(tactic| first
  | with_reducible exact rl_mf
  | with_reducible assumption
  | fail)
local macro_rules | `(tactic| wtm_at "lk") => `(tactic| with_reducible first
  | exact lk_Ear_behind
  | exact lk_Ear_begun
  | exact lk_Ear_rows
  | exact lk_Line_room
  | exact lk_Line_watcher
  | exact lk_Line_ear
  | exact lk_Leases_given
  | exact lk_Leases_spans
  | exact lk_Leases_ends
  | exact lk_Log_rows
  | exact lk_Log_gone
  | exact lk_Watcher_prefix
  | exact lk_Watcher_had
  | exact lk_Watcher_told
  | exact lk_Room_now
  | exact lk_Room_leases
  | exact lk_Room_log
  | exact lk_Room_kept
  | exact lk_Room_watchers
  | exact lk_Room_met
  | fail)
local macro_rules | `(tactic| wtm_at "lm") => `(tactic| with_reducible first
  | exact lm_Ear_hear
  | exact lm_Ear_heard
  | exact lm_Ear_state
  | exact lm_Line_turn
  | exact lm_Leases_grant
  | exact lm_Leases_need
  | exact lm_Leases_renew
  | exact lm_Leases_drop
  | exact lm_Leases_due
  | exact lm_Log_note
  | exact lm_Log_last
  | exact lm_Log_first
  | exact lm_Log_wanted
  | exact lm_Log_forget
  | exact lm_Room_grant
  | exact lm_Room_renew
  | exact lm_Room_drop
  | exact lm_Room_wait
  | exact lm_Room_free
  | exact lm_Room_put
  | exact lm_Room_cut
  | exact lm_Room_value
  | exact lm_Room_holder
  | exact lm_Room_pairs
  | exact lm_Room_last
  | exact lm_Room_first
  | exact lm_Room_watch
  | exact lm_Room_need
  | exact lm_Room_pull
  | exact lm_Room_confirm
  | exact lm_Room_broken
  | exact lm_Room_leave
  | exact lm_Room_trim
  | fail)
local macro_rules | `(tactic| wtm_at "pt") => `(tactic| with_reducible first
  | exact pt_Ear_behind
  | exact pt_Ear_begun
  | exact pt_Ear_rows
  | exact pi_Ear_0
  | exact pi_Ear_1
  | exact pi_Ear_2
  | exact pt_Line_room
  | exact pt_Line_watcher
  | exact pt_Line_ear
  | exact pi_Line_0
  | exact pi_Line_1
  | exact pi_Line_2
  | exact pt_Leases_given
  | exact pt_Leases_spans
  | exact pt_Leases_ends
  | exact pi_Leases_0
  | exact pi_Leases_1
  | exact pi_Leases_2
  | exact pt_Log_rows
  | exact pt_Log_gone
  | exact pi_Log_0
  | exact pi_Log_1
  | exact pt_Watcher_prefix
  | exact pt_Watcher_had
  | exact pt_Watcher_told
  | exact pi_Watcher_0
  | exact pi_Watcher_1
  | exact pi_Watcher_2
  | exact pt_Room_now
  | exact pt_Room_leases
  | exact pt_Room_log
  | exact pt_Room_kept
  | exact pt_Room_watchers
  | exact pt_Room_met
  | exact pi_Room_0
  | exact pi_Room_1
  | exact pi_Room_2
  | exact pi_Room_3
  | exact pi_Room_4
  | exact pi_Room_5
  | fail)
local macro_rules | `(tactic| wtm_at "lz") => `(tactic| with_reducible first
  | exact lz_Ear
  | exact lz_Line
  | exact lz_Leases
  | exact lz_Log
  | exact lz_Watcher
  | exact lz_Room
  | (simp only [List.length_cons, List.length_nil]; decide)
  | exact (by decide)
  | fail)
local macro_rules | `(tactic| wtm_at "hf") => `(tactic| first
  | assumption
  | (refine' hf_s ?hs ?hx; (case hs => assumption); (case hx => wtm_at "hf"))
  | (refine' hf_n ?hs ?hx ?ne; (case hs => assumption); (case hx => wtm_at "hf"); (case ne => wtm_at "ne"))
  | (refine' hf_e ?hs ?hx ?hy; (case hs => assumption); (case hx => wtm_at "hf"); (case hy => wtm_at "nin"))
  | fail)
local macro_rules | `(tactic| wtm_at "ne") => `(tactic| first
  | assumption
  | (apply Ne.symm; assumption)
  | (refine' ne_of_none ?hx ?hy; (case hy => assumption); (case hx => wtm_at "hf"))
  | (refine' (ne_of_none ?hx ?hy).symm; (case hy => assumption); (case hx => wtm_at "hf"))
  | (refine' ne_of ?hx ?hy ?hz; (case hx => assumption); (case hy => assumption); (case hz => intro z; cases z))
  | fail)
local macro_rules | `(tactic| wtm_at "nin") => `(tactic| first
  | assumption
  | exact notin_nil
  | (refine' notin_cons ?hx ?hy; (case hx => wtm_at "ne"); (case hy => wtm_at "nin"))
  | fail)
local macro_rules | `(tactic| wtm_at "mem") => `(tactic| first
  | assumption
  | exact List.mem_cons_self
  | (refine' List.mem_cons_of_mem _ ?hx; (case hx => wtm_at "mem"))
  | fail)
local macro_rules | `(tactic| wtm_at "wr") => `(tactic| first
  | exact Or.inr (by assumption)
  | exact Or.inl (by wtm_at "mem")
  | fail)
local macro_rules | `(tactic| wtm_at "lv") => `(tactic| first
  | assumption
  | exact Live.nil
  | (refine' Live.cons ?hx ?hy; (case hx => wtm_at "hf"); (case hy => wtm_at "lv"))
  | fail)
local macro_rules | `(tactic| wtm_at "run") => `(tactic| first
  | assumption
  | (refine' Run.same ?hx ?hy; (case hy => assumption); (case hx => wtm_at "run"))
  | fail)
local macro_rules | `(tactic| wtm_at "sq") => `(tactic| first
  | assumption
  | (refine' Run.seq ?hx ?hy; (case hx => assumption); (case hy => assumption))
  | (refine' SqL.of ?hx; (case hx => wtm_at "hf"))
  | (refine' Same.seq ?hx ?hy; (case hx => assumption); (case hy => wtm_at "sq"))
  | (refine' Ext.seqL ?hx ?hz ?hy; (case hx => assumption); (case hy => wtm_at "sq"); (case hz => wtm_at "nin"))
  | fail)
local macro_rules | `(tactic| wtm_at "st") => `(tactic| first
  | assumption
  | (refine' SqT.of ?hx; (case hx => wtm_at "hf"))
  | fail)
local macro_rules | `(tactic| wtm_at "ix") => `(tactic| first
  | assumption
  | exact rfl
  | fail)
local macro_rules | `(tactic| wtm_at "sz") => `(tactic| first
  | wtm_at "rl"
  | with_reducible assumption
  | (rw [ik_len]; wtm_at "sz")
  | (rw [sk_len]; wtm_at "sz")
  | exact smallM (by assumption)
  | exact smallM (by omega)
  | exact smallM (by simp only [List.length_cons, List.length_nil, List.length_append, List.length_map]; omega)
  | fail)
local macro_rules | `(tactic| wtm_at "tx") => `(tactic| first
  | assumption
  | ((with_reducible refine' Tx.app ?hx ?hy); (case hx => wtm_at "tx"); (case hy => wtm_at "tx"))
  | ((with_reducible refine' Tx.cut ?hx); (case hx => wtm_at "tx"))
  | with_reducible exact Tx.nil
  | fail)
local macro_rules | `(tactic| wtm_at "k") => `(tactic| first
  | with_reducible refine k_seq ?_
  | with_reducible refine k_next ?_
  | with_reducible refine k_asg ?_
  | with_reducible refine k_ret ?_
  | with_reducible refine k_retN ?_
  | with_reducible refine k_asgS ?_
  | ((with_reducible refine' l_setL ?hr ?hx ?he ?h2 ?hw ?_); (case hr => wtm_at "run"); (case hx => wtm_at "hf"); (case he => exact rfl); (case h2 => exact rfl); (case hw => wtm_at "wr"); intro _ _ _ _)
  | with_reducible refine k_minD ?_
  | with_reducible refine k_drop ?_
  | with_reducible refine k_ifS ?_
  | ((with_reducible refine' k_var ?hx ?_); (case hx => exact rfl))
  | with_reducible refine k_c ?_
  | with_reducible refine k_negc ?_
  | with_reducible refine k_neg ?_
  | with_reducible refine l_neg ?_
  | with_reducible refine k_op ?_
  | with_reducible refine k_cb ?_
  | with_reducible refine k_nil ?_
  | with_reducible refine k_cons ?_
  | with_reducible refine k_test ?_
  | with_reducible refine k_B ?_
  | with_reducible refine k_not ?_
  | with_reducible refine k_and ?_
  | with_reducible refine k_or ?_
  | with_reducible refine k_notV ?_
  | with_reducible refine k_andV ?_
  | with_reducible refine k_orV ?_
  | with_reducible refine k_bl ?_
  | with_reducible refine k_add ?_
  | with_reducible refine k_sub ?_
  | ((with_reducible refine' k_mod ?hx ?_); (case hx => first | decide | omega))
  | ((with_reducible refine' k_div ?hx ?_); (case hx => first | exact ⟨by decide, by decide⟩ | exact ⟨by omega, by omega⟩))
  | ((with_reducible refine' k_mul ?hx ?_); (case hx => first | exact Or.inl ⟨by decide, by decide⟩ | exact Or.inr ⟨by decide, by decide⟩ | exact Or.inl ⟨by omega, by omega⟩))
  | with_reducible refine k_chain ?_
  | with_reducible refine k_p6 ?_
  | with_reducible refine k_p9 ?_
  | with_reducible refine k_p12 ?_
  | with_reducible refine k_p13 ?_
  | with_reducible refine k_p18 ?_
  | with_reducible refine k_p30 ?_
  | with_reducible refine k_lt ?_
  | with_reducible refine k_le ?_
  | with_reducible refine k_gt ?_
  | with_reducible refine k_ge ?_
  | with_reducible refine k_eq ?_
  | with_reducible refine k_ne ?_
  | with_reducible refine k_seqS ?_
  | with_reducible refine k_neS ?_
  | with_reducible refine k_neB ?_
  | with_reducible refine k_isN ?_
  | with_reducible refine k_noN ?_
  | with_reducible refine k_fld ?_
  | ((with_reducible refine' l_fld ?hx ?hy ?_); (case hx => wtm_at "hf"); (case hy => wtm_at "lk"))
  | with_reducible refine k_fldS ?_
  | ((with_reducible refine' l_fldS ?hr ?hx ?hz ?hy ?hw ?_); (case hr => wtm_at "run"); (case hx => wtm_at "hf"); (case hy => wtm_at "pt"); (case hz => wtm_at "lz"); (case hw => wtm_at "wr"); intro _ _ _ _)
  | ((with_reducible refine' l_new ?hr ?_); (case hr => wtm_at "run"); intro _ _ _ _ _ _ _ _)
  | with_reducible refine k_append ?_
  | ((with_reducible refine' l_tyL ?hx ?_); (case hx => wtm_at "hf"))
  | ((with_reducible refine' l_ins ?hx ?hy ?_); (case hx => wtm_at "hf"); (case hy => wtm_at "lm"))
  | with_reducible refine k_methS ?_
  | with_reducible refine k_methG ?_
  | with_reducible refine k_makeG ?_
  | with_reducible refine k_meth0 ?_
  | with_reducible refine k_callS ?_
  | with_reducible refine k_callE ?_
  | with_reducible refine k_dget ?_
  | with_reducible refine k_din ?_
  | with_reducible refine k_dnotin ?_
  | with_reducible refine k_dput ?_
  | with_reducible refine k_dpop ?_
  | with_reducible refine k_dget2 ?_
  | with_reducible refine k_tup ?_
  | with_reducible refine k_lst ?_
  | with_reducible refine k_dnew ?_
  | ((with_reducible refine' l_tup ?hx ?_); (case hx => simp only [List.length_cons, List.length_nil]; decide))
  | ((with_reducible refine' l_lst ?hx ?_); (case hx => simp only [List.length_cons, List.length_nil]; decide))
  | ((with_reducible refine' l_isD ?hx ?_); (case hx => wtm_at "hf"))
  | ((with_reducible refine' l_dinI ?hx ?_); (case hx => wtm_at "hf"))
  | ((with_reducible refine' l_dinS ?hx ?_); (case hx => wtm_at "hf"))
  | ((with_reducible refine' l_dnotinI ?hx ?_); (case hx => wtm_at "hf"))
  | ((with_reducible refine' l_dnotinS ?hx ?_); (case hx => wtm_at "hf"))
  | ((with_reducible refine' l_dputI ?hr ?hx ?hz ?hy ?hw ?_); (case hr => wtm_at "run"); (case hx => wtm_at "hf"); (case hy => wtm_at "pk"); (case hz => wtm_at "sz"); (case hw => wtm_at "wr"); intro _ _ _ _)
  | ((with_reducible refine' l_dputS ?hr ?hx ?hz ?hy ?hw ?_); (case hr => wtm_at "run"); (case hx => wtm_at "hf"); (case hy => wtm_at "pk"); (case hz => wtm_at "sz"); (case hw => wtm_at "wr"); intro _ _ _ _)
  | ((with_reducible refine' l_dpopI ?hr ?hx ?hz ?hy ?hw ?_); (case hr => wtm_at "run"); (case hx => wtm_at "hf"); (case hy => wtm_at "pk"); (case hz => wtm_at "vk"); (case hw => wtm_at "wr"); intro _ _ _ _)
  | ((with_reducible refine' l_dpopS ?hr ?hx ?hz ?hy ?hw ?_); (case hr => wtm_at "run"); (case hx => wtm_at "hf"); (case hy => wtm_at "pk"); (case hz => wtm_at "vk"); (case hw => wtm_at "wr"); intro _ _ _ _)
  | ((with_reducible refine' l_dgetI ?hx ?hz ?_); (case hx => wtm_at "hf"); (case hz => wtm_at "vk"))
  | ((with_reducible refine' l_dgetS ?hx ?hz ?_); (case hx => wtm_at "hf"); (case hz => wtm_at "vk"))
  | ((with_reducible refine' l_dgetIF ?hx ?hz ?_); (case hx => wtm_at "hf"); (case hz => wtm_at "vk"))
  | ((with_reducible refine' l_dgetSF ?hx ?hz ?_); (case hx => wtm_at "hf"); (case hz => wtm_at "vk"))
  | ((with_reducible refine' l_dgetZ ?hx ?hz ?_); (case hx => wtm_at "hf"); (case hz => wtm_at "vk"))
  | ((with_reducible refine' k_disp ?hr ?_); (case hr => wtm_at "run"); intro _ _ _ _ _ _ _ _)
  | with_reducible refine k_pcons ?_
  | with_reducible refine k_pnil ?_
  | ((with_reducible refine' l_disp ?hr ?hx ?hu ?hv ?hy ?hw ?_); (case hr => wtm_at "run"); (case hx => wtm_at "hf"); (case hu => exact rfl); (case hv => simp only [List.length_map, List.length_cons, List.length_nil]; decide); (case hy => wtm_at "rm"); (case hw => wtm_at "wr"); intro _ _ _ _)
  | ((with_reducible refine' l_append ?hr ?hx ?hz ?hw ?_); (case hr => wtm_at "run"); (case hx => wtm_at "hf"); (case hz => wtm_at "sz"); (case hw => wtm_at "wr"); intro _ _ _ _)
  | ((with_reducible refine' l_isEt ?hx ?_); (case hx => first | exact isD (ExcK.kit (by assumption) _ (by wtm_at "mem") _ (by wtm_at "mem")) | exact isC (ExcK.kit (by assumption) _ (by wtm_at "mem") _ (by wtm_at "mem")) (by decide)))
  | ((with_reducible refine' l_isEV ?hx ?_); (case hx => exact ExcK.kitV (by assumption) _ (by wtm_at "mem")))
  | ((with_reducible refine' l_isiI ?hx ?_); (case hx => first | rfl | assumption))
  | ((with_reducible refine' l_isiB ?hx ?_); (case hx => first | rfl | assumption))
  | with_reducible refine l_isiSS ?_
  | ((with_reducible refine' l_isiS ?hx ?_); (case hx => first | rfl | assumption))
  | ((with_reducible refine' l_isiL ?hx ?_); (case hx => wtm_at "hf"))
  | ((with_reducible refine' l_isiO ?hx ?hy ?hz ?_); (case hx => wtm_at "hf"); (case hy => assumption); (case hz => assumption))
  | ((with_reducible refine' l_isiT ?hx ?_); (case hx => wtm_at "hf"))
  | ((with_reducible refine' l_lenL ?hx ?_); (case hx => wtm_at "sq"))
  | ((with_reducible refine' l_lenT ?hx ?_); (case hx => wtm_at "st"))
  | ((with_reducible refine' l_lenDK ?hx ?_); (case hx => wtm_at "hf"))
  | ((with_reducible refine' l_ixL ?hx ?hy ?_); (case hx => wtm_at "sq"); (case hy => wtm_at "ix"))
  | ((with_reducible refine' l_ixT ?hx ?hy ?_); (case hx => wtm_at "st"); (case hy => wtm_at "ix"))
  | with_reducible refine k_m1 ?_
  | with_reducible refine l_strX ?_
  | with_reducible refine l_sw ?_
  | ((with_reducible refine' x_addS ?hx ?hy ?hz ?_); (case hx => wtm_at "tx"); (case hy => wtm_at "tx"); (case hz => decide))
  | ((with_reducible refine' x_slS ?hx ?hz ?_); (case hx => wtm_at "tx"); (case hz => decide))
  | ((with_reducible refine' x_lenX ?hx ?hz ?_); (case hx => wtm_at "tx"); (case hz => decide))
  | with_reducible refine l_max ?_
  | with_reducible refine l_min ?_
  | with_reducible refine l_abs ?_
  | with_reducible refine k_sl ?_
  | with_reducible refine k_part ?_
  | with_reducible refine l_part ?_
  | with_reducible refine k_nopart ?_
  | with_reducible refine k_yes ?_
  | ((with_reducible refine' l_slL ?hr ?hx ?_); (case hr => wtm_at "run"); (case hx => wtm_at "sq"); intro _ _ _ _ _ _ _ _)
  | with_reducible refine k_lcL ?_
  | with_reducible refine k_lcR ?_
  | with_reducible refine k_for ?_
  | with_reducible refine k_zip ?_
  | with_reducible refine k_rng1 ?_
  | with_reducible refine k_rng2 ?_
  | with_reducible refine k_rng3 ?_
  | with_reducible refine k_makeS ?_
  | ((with_reducible refine' l_make ?hr ?_); (case hr => wtm_at "run"); intro _ _ _ _ _ _ _ _ _)
  | with_reducible refine k_ntt ?_
  | with_reducible refine k_ntf ?_
  | with_reducible refine k_clear ?_
  | ((with_reducible refine' l_clear ?hr ?hx ?hw ?_); (case hr => wtm_at "run"); (case hx => wtm_at "hf"); (case hw => wtm_at "wr"); intro _ _ _ _)
  | with_reducible refine k_ift ?_
  | with_reducible refine k_iff ?_
  | with_reducible refine g_name ?_
  | with_reducible refine k_revL ?_
  | ((with_reducible refine' l_tupL ?hx ?_); (case hx => wtm_at "sq"))
  | with_reducible refine l_intB ?_
  | ((with_reducible refine' l_rev ?hx ?_); (case hx => wtm_at "sq"))
  | ((with_reducible refine' l_gT2 ?hn ?hx ?_); (case hn => exact rfl); (case hx => wtm_at "st"))
  | ((with_reducible refine' l_listL ?hx ?_); (case hx => wtm_at "sq"))
  | ((with_reducible refine' l_listT ?hx ?_); (case hx => wtm_at "st"))
  | fail)
local macro_rules | `(tactic| wtm_at "k") => `(tactic| first
  | with_reducible refine k_wholeI ?_
  | ((with_reducible refine' k_whole ?hx ?_); (case hx => first | rfl | assumption))
  | ((with_reducible refine' k_cell ?hx ?hy ?_); (case hx => first | decide | omega | assumption); (case hy => wtm_at "sq"))
  | fail)
section
variable {X : Cx}
/-- a list against an empty one -/
def rEqL (K : PySem.W.Frag) : R2 := fun x y H Q => ∃ a b xs, x = .ref a ∧ y = .ref b ∧ SqL K H a xs ∧ SqL K H b [] ∧ Q (.bl xs.isEmpty) H
theorem op_eqL (hu : X.A.units + 64 < cLine) : OpR X (compareOp .Eq) (rEqL X.K) := by
  intro pins s σ H x y v u Q I rx ry h
  obtain ⟨a, b, xs, rfl, rfl, ha, hb, q⟩ := h
  cases rx
  cases ry
  obtain ⟨its, rv, pl, _⟩ := I.list ha
  obtain ⟨its2, rv2, pl2, _⟩ := I.list hb
  cases rv2
  cases xs with
  | nil =>
    cases rv
    exact SeqAt.eq_listAt (e := fun _ => true) pl.isList pl2.isList rfl (by omega) (fun j h _ => absurd h (Nat.not_lt_zero j)) ⟨.bl true, H, I, rfl, q⟩
  | cons x xs =>
    cases rv
    exact SeqAt.eq_list_lengthsAt pl.isList pl2.isList rfl (by omega) ⟨.bl false, H, I, rfl, q⟩
theorem l_eqL {K : PySem.W.Frag} {H : Hp} {Q : VK} {a b : Addr} {xs : List V} (ha : SqL K H a xs) (hb : SqL K H b []) (q : Q (.bl xs.isEmpty) H) : rEqL K (.ref a) (.ref b) H Q := ⟨a, b, xs, rfl, rfl, ha, hb, q⟩
end
section
variable {nx bk ct : St → Hp → Prop} {rt : VK} {σ : St} {H : Hp} {t u : TS} {tt : TT}
/-- a test of several parts, as one -/
theorem k_ifc (p : Prop) (G : Hp → Prop) (hh : ∀ R : Bool → Hp → Prop, (∀ b H1, (b = true ↔ p) → G H1 → R b H1) → tt σ H R) (h1 : p → ∀ H1, G H1 → t ⟨nx, rt, bk, ct⟩ σ H1) (h0 : ¬ p → ∀ H1, G H1 → u ⟨nx, rt, bk, ct⟩ σ H1) : tIfS tt t u ⟨nx, rt, bk, ct⟩ σ H :=
  k_ifS (hh _ fun b H1 e g => k_if (fun c => h1 (e.mp c) H1 g) fun c => h0 (fun hp => by rw [e.mpr hp] at c; cases c) H1 g)
end
section
variable {P : Program} {w : World} {K : PySem.W.Frag} {mg : Str → Option Value} {base : Heap}
def sp_l_step (K : PySem.W.Frag) : Sp := fun vs H Q _ => ∃ p m la pp ts H0 n F G R rows g ml ls tl cs c0 c1 c2, vs = [.ref p, .ref m, .ref la, .ref pp, .ref cs] ∧ Z9 K fLN p m la pp ts H0 n H F G R rows g ml ls tl ∧ (∀ q ∈ ls, BegOk rows q) ∧ H cs = some (.lst [.int c0, .int c1, .int c2]) ∧ cs ∉ F ++ G ∧ cs ≠ la ∧ (∀ s ∈ ls, cs ∉ s.FL) ∧ n ≤ 90 ∧
  ∀ H' F' R' rows' g' ml' ls' tl', Z9 K fLN p m la pp ts H0 (n + 1) H' F' G R' rows' g' ml' ls' tl' → (∀ q ∈ ls', BegOk rows' q) → Q (.bl true) H'
theorem sc_l_step : FnScope ["_law_room", "_law_m", "_law_lines", "_law_pool_here", "_law_cells", "_law_many", "_law_one", "_law_most", "_law_prefix_here", "_law_line"] ["_law_room", "_law_m", "_law_lines", "_law_pool_here", "_law_cells"] (defScope s_l_step) := ⟨rfl, rfl, rfl, by decide +kernel, rfl, by decide +kernel, by decide +kernel⟩
theorem ok_l_step (T : FX K mg) : FnOk P w K mg base (L2N.CX P w) 9 (He.ga K "_law_step") (fdAt K ("_law_step", none)) ["_law_room", "_law_m", "_law_lines", "_law_pool_here", "_law_cells"] (sp_l_step K) := by
  refine FunD.ok T.F_l_step sc_l_step (fun vs H Q E h => ?_) (fun cdv A outer s H vs Q E hr h => ?_)
  · (repeat (obtain ⟨_, h⟩ := h)); subst_vars; rfl
  · have hu := hu_of hr
    have hu64 := hr.units
    refine ⟨_,
      (pss_cons
        (ps_if (pt_cmpR oIeq (pe_op oImod (pe_ix ix_list (pv 4) pe_int (fun _ _ => rfl)) pe_int) pe_int (nomark _))
          (pss_cons
            (ps_expr (pe_callS (ok_l_did T) (hr.mono (j := 7) (by decide)) rfl T.g_l_did T.k_l_did T.b_l_did (fun σ => L2N.passAt tkd σ) (pa_cons (pv 0) (pa_cons (pv 1) (pa_cons (pe_callS (ok_l_deed T) (hr.mono (j := 3) (by decide)) rfl T.g_l_deed T.k_l_deed T.b_l_deed (fun σ => L2N.passAt tkd σ) (pa_cons (pv 1) (pa_cons (pv 3) (pa_cons (pe_op oIdiv (pe_ix ix_list (pv 4) pe_int (fun _ _ => rfl)) pe_int) (pa_cons (pe_ix ix_list (pv 4) pe_int (fun _ _ => rfl)) (pa_cons (pe_ix ix_list (pv 4) pe_int (fun _ _ => rfl)) pa_nil)))))) pa_nil)))))
          (pss_one
            (ps_ret (pe_callS (ok_l_stand T) (hr.mono (j := 2) (by decide)) rfl T.g_l_stand T.k_l_stand T.b_l_stand (fun σ => L2N.passAt tkd σ) (pa_cons (pv 0) (pa_cons (pv 1) pa_nil))))))
          pss_nil)
      (pss_cons
        (ps_set (i := 5) sc_l_step.nd rfl (Or.inl rfl) (pe_op oIadd (pe_meth0S (pv 0) T.cl_Room T.me_Room_last (ok_Room_last T) (hr.mono (j := 2) (by decide)) T.b_Room_last (fun σ => L2N.passAt tkd σ)) pe_int))
      (pss_cons
        (ps_if (PW.pt (pw_or (pt_cmpR (op_eqL hu64) (pv 2) (pe_lst pa_nil) (nomark _)) (pw_or1 (PW.pt (pw_and (pt_cmpR oIlt (pe_callB oLen (by rfl) T.f_len PySem.boot_len (pa_cons (pv 2) pa_nil)) pe_int (nomark _)) (pw_and1 (pt_cmpR oIeq (pe_op oImod (pe_op oIdiv (pe_ix ix_list (pv 4) pe_int (fun _ _ => rfl)) pe_int) pe_int) pe_int (nomark _))))))))
          (pss_cons
            (ps_set (i := 8) sc_l_step.nd rfl (Or.inl rfl) (pe_callS (ok_l_prefix T) (hr.mono (j := 1) (by decide)) rfl T.g_l_prefix T.k_l_prefix T.b_l_prefix (fun σ => L2N.passAt tkd σ) (pa_cons (pv 3) (pa_cons (pe_ix ix_list (pv 4) pe_int (fun _ _ => rfl)) pa_nil))))
          (pss_cons
            (ps_set (i := 9) sc_l_step.nd rfl (Or.inl rfl) (pe_callS (ok_line_now T) (hr.mono (j := 6) (by decide)) rfl T.g_line_now T.k_line_now T.b_line_now (fun σ => L2N.passAt tkd σ) (pa_cons (pv 0) (pa_cons (pv 8) pa_nil))))
          (pss_cons
            (ps_expr (pe_bm PySem.F.plainAttrs_list PySem.F.slot_list_append PySem.F.type_list_append mt_append (pv 2) (pa_cons (pe_tup (pa_cons (pv 9) (pa_cons (pv 8) pa_nil))) pa_nil)))
          (pss_cons
            (ps_if (PW.pt (pw_or (pt_not (pt_val (pe_callB call_isi (by rfl) T.f_isinstance (by decide +kernel) (pa_cons (pv 9) (pa_cons (pe_glob (v := .ref (He.ga K "Line")) rfl T.g_Line rfl) pa_nil))))) (pw_or1 (pt_not (pt_val (pe_callS (ok_l_begun T) (hr.mono (j := 8) (by decide)) rfl T.g_l_begun T.k_l_begun T.b_l_begun (fun σ => L2N.passAt tkd σ) (pa_cons (pv 0) (pa_cons (pv 1) (pa_cons (pv 9) (pa_cons (pv 8) (pa_cons (pe_ix ix_list (pv 4) pe_int (fun _ _ => rfl)) (pa_cons (pe_callB oLen (by rfl) T.f_len PySem.boot_len (pa_cons (pv 2) pa_nil)) pa_nil))))))))))))
              (pss_one
                (ps_ret pe_bl))
              pss_nil)
          (pss_one
            (ps_ret (pe_or (pe_cmpR oIeq (pe_op oImod (pe_ix ix_list (pv 4) pe_int (fun _ _ => rfl)) pe_int) pe_int (nomark _)) (pe_one (pe_callS (ok_l_knows T) (hr.mono (j := 2) (by decide)) rfl T.g_l_knows T.k_l_knows T.b_l_knows (fun σ => L2N.passAt tkd σ) (pa_cons (pv 9) (pa_cons (pv 0) (pa_cons (pv 8) pa_nil))))))))))))
          pss_nil)
      (pss_cons
        (ps_if (pt_cmpR oIeq (pe_op oImod (pe_op oIdiv (pe_ix ix_list (pv 4) pe_int (fun _ _ => rfl)) pe_int) pe_int) pe_int (nomark _))
          (pss_one
            (ps_ret (pe_callS (ok_l_whole T) (hr.mono (j := 1) (by decide)) rfl T.g_l_whole T.k_l_whole T.b_l_whole (fun σ => L2N.passAt tkd σ) (pa_cons (pe_meth0S (pv 0) T.cl_Room T.me_Room_trim (ok_Room_trim T) (hr.mono (j := 2) (by decide)) T.b_Room_trim (fun σ => L2N.passAt tkd σ)) pa_nil))))
          pss_nil)
      (pss_cons
        (ps_set (i := 6) sc_l_step.nd rfl (Or.inl rfl) (pe_ix ix_list (pv 2) (pe_op oImod (pe_ix ix_list (pv 4) pe_int (fun _ _ => rfl)) (pe_callB oLen (by rfl) T.f_len PySem.boot_len (pa_cons (pv 2) pa_nil))) (fun _ _ => rfl)))
      (pss_cons
        (ps_set (i := 7) sc_l_step.nd rfl (Or.inl rfl) (pe_ix ix_list (pe_lst (pa_cons (pe_op oImod (pe_op oIdiv (pe_ix ix_list (pv 4) pe_int (fun _ _ => rfl)) pe_int) pe_int) (pa_cons (pv 5) (pa_cons (pe_op oImod (pe_op oIdiv (pe_ix ix_list (pv 4) pe_int (fun _ _ => rfl)) pe_int) pe_int) pa_nil)))) (pe_op oImod (pe_op oIdiv (pe_ix ix_list (pv 4) pe_int (fun _ _ => rfl)) pe_int) pe_int) (fun _ _ => rfl)))
      (pss_cons
        (ps_expr (pe_methS (pe_ix ix_tup (pv 6) pe_int (fun _ _ => rfl)) T.cl_Line T.me_Line_turn (ok_Line_turn T) (hr.mono (j := 3) (by decide)) T.b_Line_turn (fun σ => L2N.passAt tkd σ) (pa_cons (pv 7) (pa_cons (pe_op oImod (pe_ix ix_list (pv 4) pe_int (fun _ _ => rfl)) pe_int) pa_nil))))
      (pss_one
        (ps_ret (pe_or (pe_cmpR oIne (pe_op oImod (pe_ix ix_list (pv 4) pe_int (fun _ _ => rfl)) pe_int) pe_int (nomark _)) (pe_or (pe_cmpR oIne (pv 7) (pv 5) (nomark _)) (pe_one (pe_callS (ok_l_knows T) (hr.mono (j := 2) (by decide)) rfl T.g_l_knows T.k_l_knows T.b_l_knows (fun σ => L2N.passAt tkd σ) (pa_cons (pe_ix ix_tup (pv 6) pe_int (fun _ _ => rfl)) (pa_cons (pv 0) (pa_cons (pe_ix ix_tup (pv 6) pe_int (fun _ _ => rfl)) pa_nil)))))))))))))))), ?_⟩
    obtain ⟨p, m, la, pp, ts, H0, n, F, G, R, rows, g, ml, ls, tl, cs, c0, c1, c2, rfl, z, bg, hcs, ncs, ncl, ncL, zn, k⟩ := h
    obtain ⟨fm, hM, _⟩ := id z.s.hM
    obtain ⟨mi, eG, nmi, h1, h2⟩ := id hM
    have e0 : atI [V.int c0, V.int c1, V.int c2] 0 = some (.int c0) := rfl
    have e1 : atI [V.int c0, V.int c1, V.int c2] 1 = some (.int c1) := rfl
    have e2 : atI [V.int c0, V.int c1, V.int c2] 2 = some (.int c2) := rfl
    have hla := z.hl
    have llt := Paired.length z.tl
    obtain ⟨X, Fp, eF, S⟩ := id z.s.hR
    obtain ⟨em, dxr, hp⟩ := S.r .me
    have egone : R.G.gone = g := z.s.hs.jl.gn
    have elast : R.G.last = rows.length := z.s.hs.last
    have g0 : 0 ≤ g := z.s.hs.jl.g0
    have gl : g ≤ (rows.length : Int) := z.s.hs.jl.gl
    obtain ⟨kz1, kz2⟩ := z.kz (by omega)
    have R0 : Run [] H H := Run.start Live.nil
    repeat wtm_at "k"
    refine k_ifd (fun d1 => ?_) fun d1 => ?_
    · repeat wtm_at "k"
      refine ⟨m, _, _, pp, ts, _, _, _, rfl, h1, rv_mf_given, z.hp, z.s.lo.g0, fun v H2 d hv dx x2 => ?_⟩
      have z2 := z.same x2
      repeat wtm_at "k"
      refine did9 z2.s (by omega) hv dx fun H3 R3 ext ml3 s3 w3 m3 x3 _ _ => ?_
      have z3 := z2.did s3 w3 m3 x3
      have bg3 : ∀ q ∈ ls, BegOk (rows ++ ext) q := fun q hq => (bg q hq).grow
      repeat wtm_at "k"
      refine stand10 z3 (by omega) fun H4 e4 => ?_
      exact k H4 F R3 _ g ml3 ls tl (z3.same e4) bg3
    repeat wtm_at "k"
    refine ⟨p, F, R, rfl, z.s.hR, ?_⟩
    rw [elast]
    refine k_c (k_add (k_seq (k_ifc (ls = [] ∨ ls.length < 4 ∧ c0 / 2 % 3 = 0) (Ext [] H) (fun Rr q => ?_) (fun hc H1 x1 => ?_) fun hc H1 x1 => ?_)))
    · have e : tl.isEmpty = true ↔ ls = [] := by rw [List.isEmpty_iff, ← List.length_eq_zero_iff, llt, List.length_eq_zero_iff]
      repeat wtm_at "k"
      rename_i l0 H3 u1 u2 u3 r3 g3 s3
      refine l_eqL (SqL.of (s3 _ _ hla)) (SqL.of g3) ?_
      repeat wtm_at "k"
      refine k_if (fun c => ?_) fun c => ?_
      · exact q _ _ ⟨fun _ => .inl (e.mp c), fun _ => rfl⟩ r3.ext
      have ne : ls ≠ [] := fun y => by rw [e.mpr y] at c; cases c
      have hla3 := s3 _ _ hla
      repeat wtm_at "k"
      refine k_ifd (fun d2 => ?_) fun d2 => ?_
      · repeat wtm_at "k"
        exact q _ _ ⟨fun y => .inr ⟨by omega, of_decide_eq_true y⟩, fun y => decide_eq_true (y.elim (fun y => absurd y ne) fun y => y.2)⟩ r3.ext
      · exact q _ _ ⟨fun y => absurd y Bool.false_ne_true, fun y => y.elim (fun y => absurd y ne) fun y => absurd y.1 (by omega)⟩ r3.ext
    · replace z := z.same x1
      have l4 : ls.length < 4 := hc.elim (fun y => by rw [y]; decide) fun y => y.1
      have hcs1 := x1.keep _ _ hcs (by simp)
      repeat wtm_at "k"
      refine ⟨pp, ts, _, rfl, z.hp, fun pre H2 tx x2 => ?_⟩
      have px : Tx 1000 pre := tx.mono (by decide)
      have z2 := z.same x2
      have hcs2 := x2.keep _ _ hcs1 (by simp)
      repeat wtm_at "k"
      refine ⟨p, F, R, pre, px, rfl, z2.s.hR, z2.wok, by rw [z.ws, wsOf_len]; omega, z2.s.hs.nk, kz1, fun H3 F3 FL l nl hR3 hL3 gr3 ap3 e3 => ?_⟩
      rw [elast] at hR3 hL3
      have nlF : la ∉ F := fun y => z.nl (List.mem_append.mpr (.inl y))
      have ncF : cs ∉ F := fun y => ncs (List.mem_append.mpr (.inl y))
      have ncG : cs ∉ G := fun y => ncs (List.mem_append.mpr (.inr y))
      have ncX : cs ∉ F3 ++ FL := fun y => (gr3 cs y).elim ncF fun y => by rw [hcs2] at y; cases y
      have hla3 := e3.keep _ _ z2.hl nlF
      have hcs3 := e3.keep _ _ hcs2 ncF
      obtain ⟨dx4, ea4, Fe4, eFL4, q1, q2, q3⟩ := id hL3
      have R3 : Run [la] H3 H3 := Run.start (by wtm_at "lv")
      have lla : l ≠ la := fun y => by rw [y, z2.hl] at nl; cases nl
      repeat wtm_at "k"
      rename_i t H5 u1 u2 u3 r5 g5 s5 H6 r6 g6 n6
      have q16 := r6.ext.keep _ _ q1 (by simpa using lla)
      refine l_isiO q16 T.cl_Line T.is_Line ?_
      have ht6 : H6 t = some (.tup [.ref l, .str pre]) := by wtm_at "hf"
      have hcs6 := r6.ext.keep _ _ hcs3 (by simpa using ncl)
      have z6 := (z2.line (b := pairsOf R.kept pre) (px := px) (start := (rows.length : Int) + 1) (by omega) (Int.le_refl _) (by omega) hR3 hL3 gr3 ap3 e3 r6.ext g6 ht6)
      have bg6 : ∀ q ∈ ls ++ [⟨l, FL, pre, px, (rows.length : Int) + 1, ⟨(rows.length : Int) + 1 - 1, pairsOf R.kept pre, []⟩, ⟨pre, px, (rows.length : Int) + 1 - 1, (rows.length : Int) + 1 - 1⟩⟩], BegOk rows q := fun q hq => by
        rcases List.mem_append.mp hq with y | y
        · exact bg q y
        · rw [List.mem_singleton.mp y]
          exact BegOk.new z.s.hs kz1
      repeat wtm_at "k"
      have elt : ((tl ++ [V.ref t]).length : Int) = ((ls.length + 1 : Nat) : Int) := by rw [List.length_append, llt]; rfl
      refine ⟨p, m, la, pp, ts, H0, n, F3, G, _, rows, g, ml, _, _, ls.length, ⟨l, FL, pre, px, (rows.length : Int) + 1, ⟨(rows.length : Int) + 1 - 1, pairsOf R.kept pre, []⟩, ⟨pre, px, (rows.length : Int) + 1 - 1, (rows.length : Int) + 1 - 1⟩⟩, c1, _, pairsOf R.kept pre, rfl, z6, ?_, by rw [List.length_append]; rfl, rfl, rfl, rfl, by rw [elt, List.length_append]; rfl, zn, bg6, tx, fun H7 F7 R7 rows7 g7 ml7 ls7 z7 bg7 el7 fin x7 => ?_⟩
      · rw [List.getElem?_append_right (Nat.le_refl _), Nat.sub_self]; rfl
      obtain ⟨E7, x7w, es7, full7⟩ := fin
      have ncY : cs ∉ F3 ++ G ++ FL := fun y => (List.mem_append.mp y).elim (fun y => (List.mem_append.mp y).elim (fun y => ncX (List.mem_append.mpr (.inl y))) ncG) fun y => ncX (List.mem_append.mpr (.inr y))
      have hcs7 := x7.keep _ _ hcs6 ncY
      repeat wtm_at "k"
      refine k_ifd (fun d3 => ?_) fun d3 => ?_
      · repeat wtm_at "k"
        exact k H7 F7 R7 rows7 g7 ml7 ls7 _ z7 bg7
      · repeat wtm_at "k"
        exact knows10 z7 es7 (by omega) bg7 (full7 d3) fun H8 e8 => k H8 F7 R7 rows7 g7 ml7 ls7 _ (z7.same e8) bg7
    replace z := z.same x1
    have hla1 := z.hl
    have hcs1 := x1.keep _ _ hcs (by simp)
    have pos : 1 ≤ ls.length := by
      rcases ls with _ | ⟨a, r⟩
      · exact absurd (.inl rfl) hc
      · simp
    repeat wtm_at "k"
    refine k_ifd (fun d2 => ?_) fun d2 => ?_
    · repeat wtm_at "k"
      refine ⟨p, F, R, rfl, z.s.hR, z.wok, by rw [z.ws, wsOf_len]; have := z.lz; omega, by have := z.s.hs.bd; have := z.s.bd.ml; omega, fun u u1 u2 u3 H2 F2 hR2 gr2 x2 => ?_⟩
      obtain ⟨z2, em2⟩ := z.trim u1 u2 u3 hR2 gr2 x2
      repeat wtm_at "k"
      exact k H2 F2 _ rows _ ml ls tl (z2.mono (Nat.le_succ _)) bg
    have R1 : Run [] H1 H1 := Run.start Live.nil
    repeat wtm_at "k"
    have tp : 0 < (tl.length : Int) := by omega
    have j0 := Int.emod_nonneg c1 (b := (tl.length : Int)) (by omega)
    have j1 := Int.emod_lt_of_pos c1 tp
    obtain ⟨i, ei⟩ := Int.eq_ofNat_of_zero_le j0
    rw [ei] at j1 ⊢
    have li : i < tl.length := by omega
    obtain ⟨s, es, t, et, ht⟩ := getT z.tl (List.getElem?_eq_getElem li)
    have eix : atI tl (i : Int) = some (.ref t) := by
      rw [← et]
      exact atI_of (by omega) (by rw [Int.toNat_natCast]; exact List.getElem?_eq_getElem li)
    refine l_ixL (SqL.of z.hl) eix ?_
    have ht : H1 t = some (.tup [.ref s.l, .str s.pre]) := ht
    have li2 := (List.getElem?_eq_some_iff.mp es).1
    obtain ⟨mo, emo, hmo⟩ : ∃ d, atI (([c2 / 4 % 5, (rows.length : Int) + 1, c2 / 4 % 41] : List Int).map V.int) (c0 / 42 % 3) = some (.int d) ∧ 0 ≤ d := by
      have h : c0 / 42 % 3 = 0 ∨ c0 / 42 % 3 = 1 ∨ c0 / 42 % 3 = 2 := by omega
      rcases h with h | h | h <;> rw [h] <;> exact ⟨_, rfl, by omega⟩
    obtain ⟨dx, ea, Fe, eFL, q1, q2, q3⟩ := id (z.ln i s es)
    repeat wtm_at "k"
    rename_i lm H2 u1 u2 u3 r2 g2 s2
    have z2 := z.same r2.ext
    have hcs2 := s2 _ _ hcs1
    have ms := List.mem_of_getElem? es
    refine turn10 z2 es (fun _ _ => rfl) (by omega) hmo fun H3 E3 x3 z3 eE3 eb had xx => ?_
    have ncX : cs ∉ F ++ s.FL := fun y => (List.mem_append.mp y).elim (fun y => ncs (List.mem_append.mpr (.inl y))) (ncL s ms)
    have hcs3 := xx.keep _ _ hcs2 ncX
    have ht3 : H3 t = some (.tup [.ref s.l, .str s.pre]) := xx.tups _ _ (r2.ext.tups _ _ ht)
    have bg3 := bg_set bg es eb (x' := x3)
    have done : ∀ H4, Ext [] H3 H4 → Q (.bl true) H4 := fun H4 e4 => k H4 F _ rows g ml _ tl ((z3.same e4).mono (Nat.le_succ _)) bg3
    have lS : (ls.set i { s with E := E3, x := x3 })[i]? = some { s with E := E3, x := x3 } := List.getElem?_set_self li2
    repeat wtm_at "k"
    refine k_ifnd (fun d3 => ?_) fun d3 => ?_
    · exact done H3 (Ext.refl _ _)
    repeat wtm_at "k"
    refine k_ifnd (fun d4 => ?_) fun d4 => ?_
    · exact done H3 (Ext.refl _ _)
    repeat wtm_at "k"
    have full : E3.rows = wants rows s.pre s.start := (z3.inv _ (List.mem_of_getElem? lS)).all z3.s.hs.jl.nm (had d3 (by omega))
    exact knows10 (s := { s with E := E3, x := x3 }) z3 lS (by omega) bg3 full done
end
end LW

set_option maxHeartbeats 4000000
namespace LW
open PySem PySem.Spec PyProof.Rows L2
local macro_rules | `(tactic| wtm_at "vk") => `(tactic| first
  | assumption
  | with_reducible exact rv_mf_given
  | with_reducible exact rv_mf_free
  | exact valV_sv (by assumption)
  | exact valV_iv (by assumption)
  | fail)
local macro_rules | `(tactic| wtm_at "pk") => `(tactic| first
  | with_reducible exact putK_iv
  | with_reducible exact dropK_ik
  | with_reducible exact dropK_sk
  | with_reducible exact rp_mf_given
  | with_reducible exact rp_mf_free
  | exact putK_sv
  | assumption
  | fail)
local macro_rules | `(tactic| wtm_at "rm") => `(tactic| first
  | with_reducible exact rm_mf
  | exact rfl
  | fail)
local macro_rules | `(tactic| wtm_at "rl") => `(tactic| first
  | with_reducible exact rl_mf
  | with_reducible assumption
  | fail)
local macro_rules | `(tactic| wtm_at "lk") => `(tactic| with_reducible first
  | exact lk_Ear_behind
  | exact lk_Ear_begun
  | exact lk_Ear_rows
  | exact lk_Line_room
  | exact lk_Line_watcher
  | exact lk_Line_ear
  | exact lk_Leases_given
  | exact lk_Leases_spans
  | exact lk_Leases_ends
  | exact lk_Log_rows
  | exact lk_Log_gone
  | exact lk_Watcher_prefix
  | exact lk_Watcher_had
  | exact lk_Watcher_told
  | exact lk_Room_now
  | exact lk_Room_leases
  | exact lk_Room_log
  | exact lk_Room_kept
  | exact lk_Room_watchers
  | exact lk_Room_met
  | fail)
local macro_rules | `(tactic| wtm_at "lm") => `(tactic| with_reducible first
  | exact lm_Ear_hear
  | exact lm_Ear_heard
  | exact lm_Ear_state
  | exact lm_Line_turn
  | exact lm_Leases_grant
  | exact lm_Leases_need
  | exact lm_Leases_renew
  | exact lm_Leases_drop
  | exact lm_Leases_due
  | exact lm_Log_note
  | exact lm_Log_last
  | exact lm_Log_first
  | exact lm_Log_wanted
  | exact lm_Log_forget
  | exact lm_Room_grant
  | exact lm_Room_renew
  | exact lm_Room_drop
  | exact lm_Room_wait
  | exact lm_Room_free
  | exact lm_Room_put
  | exact lm_Room_cut
  | exact lm_Room_value
  | exact lm_Room_holder
  | exact lm_Room_pairs
  | exact lm_Room_last
  | exact lm_Room_first
  | exact lm_Room_watch
  | exact lm_Room_need
  | exact lm_Room_pull
  | exact lm_Room_confirm
  | exact lm_Room_broken
  | exact lm_Room_leave
  | exact lm_Room_trim
  | fail)
local macro_rules | `(tactic| wtm_at "pt") => `(tactic| with_reducible first
  | exact pt_Ear_behind
  | exact pt_Ear_begun
  | exact pt_Ear_rows
  | exact pi_Ear_0
  | exact pi_Ear_1
  | exact pi_Ear_2
  | exact pt_Line_room
  | exact pt_Line_watcher
  | exact pt_Line_ear
  | exact pi_Line_0
  | exact pi_Line_1
  | exact pi_Line_2
  | exact pt_Leases_given
  | exact pt_Leases_spans
  | exact pt_Leases_ends
  | exact pi_Leases_0
  | exact pi_Leases_1
  | exact pi_Leases_2
  | exact pt_Log_rows
  | exact pt_Log_gone
  | exact pi_Log_0
  | exact pi_Log_1
  | exact pt_Watcher_prefix
  | exact pt_Watcher_had
  | exact pt_Watcher_told
  | exact pi_Watcher_0
  | exact pi_Watcher_1
  | exact pi_Watcher_2
  | exact pt_Room_now
  | exact pt_Room_leases
  | exact pt_Room_log
  | exact pt_Room_kept
  | exact pt_Room_watchers
  | exact pt_Room_met
  | exact pi_Room_0
  | exact pi_Room_1
  | exact pi_Room_2
  | exact pi_Room_3
  | exact pi_Room_4
  | exact pi_Room_5
  | fail)
local macro_rules | `(tactic| wtm_at "lz") => `(tactic| with_reducible first
  | exact lz_Ear
  | exact lz_Line
  | exact lz_Leases
  | exact lz_Log
  | exact lz_Watcher
  | exact lz_Room
  | (simp only [List.length_cons, List.length_nil]; decide)
  | exact (by decide)
  | fail)
local macro_rules | `(tactic| wtm_at "hf") => `(tactic| first
  | assumption
  | (refine' hf_s ?hs ?hx; (case hs => assumption); (case hx => wtm_at "hf"))
  | (refine' hf_n ?hs ?hx ?ne; (case hs => assumption); (case hx => wtm_at "hf"); (case ne => wtm_at "ne"))
  | (refine' hf_e ?hs ?hx ?hy; (case hs => assumption); (case hx => wtm_at "hf"); (case hy => wtm_at "nin"))
  | fail)
local macro_rules | `(tactic| wtm_at "ne") => `(tactic| first
  | assumption
  | (apply Ne.symm; assumption)
  | (refine' ne_of_none ?hx ?hy; (case hy => assumption); (case hx => wtm_at "hf"))
  | (refine' (ne_of_none ?hx ?hy).symm; (case hy => assumption); (case hx => wtm_at "hf"))
  | (refine' ne_of ?hx ?hy ?hz; (case hx => assumption); (case hy => assumption); (case hz => intro z; cases z))
  | fail)
local macro_rules | `(tactic| wtm_at "nin") => `(tactic| first
  | assumption
  | exact notin_nil
  | (refine' notin_cons ?hx ?hy; (case hx => wtm_at "ne"); (case hy => wtm_at "nin"))
  | fail)
local macro_rules | `(tactic| wtm_at "mem") => `(tactic| first
  | assumption
  | exact List.mem_cons_self
  | (refine' List.mem_cons_of_mem _ ?hx; (case hx => wtm_at "mem"))
  | fail)
local macro_rules | `(tactic| wtm_at "wr") => `(tactic| first
  | exact Or.inr (by assumption)
  | exact Or.inl (by wtm_at "mem")
  | fail)
local macro_rules | `(tactic| wtm_at "lv") => `(tactic| first
  | assumption
  | exact Live.nil
  | (refine' Live.cons ?hx ?hy; (case hx => wtm_at "hf"); (case hy => wtm_at "lv"))
  | fail)
local macro_rules | `(tactic| wtm_at "run") => `(tactic| first
  | assumption
  | (refine' Run.same ?hx ?hy; (case hy => assumption); (case hx => wtm_at "run"))
  | fail)
local macro_rules | `(tactic| wtm_at "sq") => `(tactic| first
  | assumption
  | (refine' Run.seq ?hx ?hy; (case hx => assumption); (case hy => assumption))
  | (refine' SqL.of ?hx; (case hx => wtm_at "hf"))
  | (refine' Same.seq ?hx ?hy; (case hx => assumption); (case hy => wtm_at "sq"))
  | (refine' Ext.seqL ?hx ?hz ?hy; (case hx => assumption); (case hy => wtm_at "sq"); (case hz => wtm_at "nin"))
  | fail)
local macro_rules | `(tactic| wtm_at "st") => `(tactic| first
  | assumption
  | (refine' SqT.of ?hx; (case hx => wtm_at "hf"))
  | fail)
local macro_rules | `(tactic| wtm_at "ix") => `(tactic| first
  | assumption
  | exact rfl
  | fail)
local macro_rules | `(tactic| wtm_at "sz") => `(tactic| first
  | wtm_at "rl"
  | with_reducible assumption
  | (rw [ik_len]; wtm_at "sz")
  | (rw [sk_len]; wtm_at "sz")
  | exact smallM (by assumption)
  | exact smallM (by omega)
  | exact smallM (by simp only [List.length_cons, List.length_nil, List.length_append, List.length_map]; omega)
  | fail)
local macro_rules | `(tactic| wtm_at "tx") => `(tactic| first
  | assumption
  | ((with_reducible refine' Tx.app ?hx ?hy); (case hx => wtm_at "tx"); (case hy => wtm_at "tx"))
  | ((with_reducible refine' Tx.cut ?hx); (case hx => wtm_at "tx"))
  | with_reducible exact Tx.nil
  | fail)
local macro_rules | `(tactic| wtm_at "k") => `(tactic| first
  | with_reducible refine k_seq ?_
  | with_reducible refine k_next ?_
  | with_reducible refine k_asg ?_
  | with_reducible refine k_ret ?_
  | with_reducible refine k_retN ?_
  | with_reducible refine k_asgS ?_
  | ((with_reducible refine' l_setL ?hr ?hx ?he ?h2 ?hw ?_); (case hr => wtm_at "run"); (case hx => wtm_at "hf"); (case he => exact rfl); (case h2 => exact rfl); (case hw => wtm_at "wr"); intro _ _ _ _)
  | with_reducible refine k_minD ?_
  | with_reducible refine k_drop ?_
  | with_reducible refine k_ifS ?_
  | ((with_reducible refine' k_var ?hx ?_); (case hx => exact rfl))
  | with_reducible refine k_c ?_
  | with_reducible refine k_negc ?_
  | with_reducible refine k_neg ?_
  | with_reducible refine l_neg ?_
  | with_reducible refine k_op ?_
  | with_reducible refine k_cb ?_
  | with_reducible refine k_nil ?_
  | with_reducible refine k_cons ?_
  | with_reducible refine k_test ?_
  | with_reducible refine k_B ?_
  | with_reducible refine k_not ?_
  | with_reducible refine k_and ?_
  | with_reducible refine k_or ?_
  | with_reducible refine k_notV ?_
  | with_reducible refine k_andV ?_
  | with_reducible refine k_orV ?_
  | with_reducible refine k_bl ?_
  | with_reducible refine k_add ?_
  | with_reducible refine k_sub ?_
  | ((with_reducible refine' k_mod ?hx ?_); (case hx => first | decide | omega))
  | ((with_reducible refine' k_div ?hx ?_); (case hx => first | exact ⟨by decide, by decide⟩ | exact ⟨by omega, by omega⟩))
  | ((with_reducible refine' k_mul ?hx ?_); (case hx => first | exact Or.inl ⟨by decide, by decide⟩ | exact Or.inr ⟨by decide, by decide⟩ | exact Or.inl ⟨by omega, by omega⟩))
  | with_reducible refine k_chain ?_
  | with_reducible refine k_p6 ?_
  | with_reducible refine k_p9 ?_
  | with_reducible refine k_p12 ?_
  | with_reducible refine k_p13 ?_
  | with_reducible refine k_p18 ?_
  | with_reducible refine k_p30 ?_
  | with_reducible refine k_lt ?_
  | with_reducible refine k_le ?_
  | with_reducible refine k_gt ?_
  | with_reducible refine k_ge ?_
  | with_reducible refine k_eq ?_
  | with_reducible refine k_ne ?_
  | with_reducible refine k_seqS ?_
  | with_reducible refine k_neS ?_
  | with_reducible refine k_neB ?_
  | with_reducible refine k_isN ?_
  | with_reducible refine k_noN ?_
  | with_reducible refine k_fld ?_
  | ((with_reducible refine' l_fld ?hx ?hy ?_); (case hx => wtm_at "hf"); (case hy => wtm_at "lk"))
  | with_reducible refine k_fldS ?_
  | ((with_reducible refine' l_fldS ?hr ?hx ?hz ?hy ?hw ?_); (case hr => wtm_at "run"); (case hx => wtm_at "hf"); (case hy => wtm_at "pt"); (case hz => wtm_at "lz"); (case hw => wtm_at "wr"); intro _ _ _ _)
  | ((with_reducible refine' l_new ?hr ?_); (case hr => wtm_at "run"); intro _ _ _ _ _ _ _ _)
  | with_reducible refine k_append ?_
  | ((with_reducible refine' l_tyL ?hx ?_); (case hx => wtm_at "hf"))
  | ((with_reducible refine' l_ins ?hx ?hy ?_); (case hx => wtm_at "hf"); (case hy => wtm_at "lm"))
  | with_reducible refine k_methS ?_
  | with_reducible refine k_methG ?_
  | with_reducible refine k_makeG ?_
  | with_reducible refine k_meth0 ?_
  | with_reducible refine k_callS ?_
  | with_reducible refine k_callE ?_
  | with_reducible refine k_dget ?_
  | with_reducible refine k_din ?_
  | with_reducible refine k_dnotin ?_
  | with_reducible refine k_dput ?_
  | with_reducible refine k_dpop ?_
  | with_reducible refine k_dget2 ?_
  | with_reducible refine k_tup ?_
  | with_reducible refine k_lst ?_
  | with_reducible refine k_dnew ?_
  | ((with_reducible refine' l_tup ?hx ?_); (case hx => simp only [List.length_cons, List.length_nil]; decide))
  | ((with_reducible refine' l_lst ?hx ?_); (case hx => simp only [List.length_cons, List.length_nil]; decide))
  | ((with_reducible refine' l_isD ?hx ?_); (case hx => wtm_at "hf"))
  | ((with_reducible refine' l_dinI ?hx ?_); (case hx => wtm_at "hf"))
  | ((with_reducible refine' l_dinS ?hx ?_); (case hx => wtm_at "hf"))
  | ((with_reducible refine' l_dnotinI ?hx ?_); (case hx => wtm_at "hf"))
  | ((with_reducible refine' l_dnotinS ?hx ?_); (case hx => wtm_at "hf"))
  | ((with_reducible refine' l_dputI ?hr ?hx ?hz ?hy ?hw ?_); (case hr => wtm_at "run"); (case hx => wtm_at "hf"); (case hy => wtm_at "pk"); (case hz => wtm_at "sz"); (case hw => wtm_at "wr"); intro _ _ _ _)
  | ((with_reducible refine' l_dputS ?hr ?hx ?hz ?hy ?hw ?_); (case hr => wtm_at "run"); (case hx => wtm_at "hf"); (case hy => wtm_at "pk"); (case hz => wtm_at "sz"); (case hw => wtm_at "wr"); intro _ _ _ _)
  | ((with_reducible refine' l_dpopI ?hr ?hx ?hz ?hy ?hw ?_); (case hr => wtm_at "run"); (case hx => wtm_at "hf"); (case hy => wtm_at "pk"); (case hz => wtm_at "vk"); (case hw => wtm_at "wr"); intro _ _ _ _)
  | ((with_reducible refine' l_dpopS ?hr ?hx ?hz ?hy ?hw ?_); (case hr => wtm_at "run"); (case hx => wtm_at "hf"); (case hy => wtm_at "pk"); (case hz => wtm_at "vk"); (case hw => wtm_at "wr"); intro _ _ _ _)
  | ((with_reducible refine' l_dgetI ?hx ?hz ?_); (case hx => wtm_at "hf"); (case hz => wtm_at "vk"))
  | ((with_reducible refine' l_dgetS ?hx ?hz ?_); (case hx => wtm_at "hf"); (case hz => wtm_at "vk"))
  | ((with_reducible refine' l_dgetIF ?hx ?hz ?_); (case hx => wtm_at "hf"); (case hz => wtm_at "vk"))
  | ((with_reducible refine' l_dgetSF ?hx ?hz ?_); (case hx => wtm_at "hf"); (case hz => wtm_at "vk"))
  | ((with_reducible refine' l_dgetZ ?hx ?hz ?_); (case hx => wtm_at "hf"); (case hz => wtm_at "vk"))
  | ((with_reducible refine' k_disp ?hr ?_); (case hr => wtm_at "run"); intro _ _ _ _ _ _ _ _)
  | with_reducible refine k_pcons ?_
  | with_reducible refine k_pnil ?_
  | ((with_reducible refine' l_disp ?hr ?hx ?hu ?hv ?hy ?hw ?_); (case hr => wtm_at "run"); (case hx => wtm_at "hf"); (case hu => exact rfl); (case hv => simp only [List.length_map, List.length_cons, List.length_nil]; decide); (case hy => wtm_at "rm"); (case hw => wtm_at "wr"); intro _ _ _ _)
  | ((with_reducible refine' l_append ?hr ?hx ?hz ?hw ?_); (case hr => wtm_at "run"); (case hx => wtm_at "hf"); (case hz => wtm_at "sz"); (case hw => wtm_at "wr"); intro _ _ _ _)
  | ((with_reducible refine' l_isEt ?hx ?_); (case hx => first | exact isD (ExcK.kit (by assumption) _ (by wtm_at "mem") _ (by wtm_at "mem")) | exact isC (ExcK.kit (by assumption) _ (by wtm_at "mem") _ (by wtm_at "mem")) (by decide)))
  | ((with_reducible refine' l_isEV ?hx ?_); (case hx => exact ExcK.kitV (by assumption) _ (by wtm_at "mem")))
  | ((with_reducible refine' l_isiI ?hx ?_); (case hx => first | rfl | assumption))
  | ((with_reducible refine' l_isiB ?hx ?_); (case hx => first | rfl | assumption))
  | with_reducible refine l_isiSS ?_
  | ((with_reducible refine' l_isiS ?hx ?_); (case hx => first | rfl | assumption))
  | ((with_reducible refine' l_isiL ?hx ?_); (case hx => wtm_at "hf"))
  | ((with_reducible refine' l_isiO ?hx ?hy ?hz ?_); (case hx => wtm_at "hf"); (case hy => assumption); (case hz => assumption))
  | ((with_reducible refine' l_isiT ?hx ?_); (case hx => wtm_at "hf"))
  | ((with_reducible refine' l_lenL ?hx ?_); (case hx => wtm_at "sq"))
  | ((with_reducible refine' l_lenT ?hx ?_); (case hx => wtm_at "st"))
  | ((with_reducible refine' l_lenDK ?hx ?_); (case hx => wtm_at "hf"))
  | ((with_reducible refine' l_ixL ?hx ?hy ?_); (case hx => wtm_at "sq"); (case hy => wtm_at "ix"))
  | ((with_reducible refine' l_ixT ?hx ?hy ?_); (case hx => wtm_at "st"); (case hy => wtm_at "ix"))
  | with_reducible refine k_m1 ?_
  | with_reducible refine l_strX ?_
  | with_reducible refine l_sw ?_
  | ((with_reducible refine' x_addS ?hx ?hy ?hz ?_); (case hx => wtm_at "tx"); (case hy => wtm_at "tx"); (case hz => decide))
  | ((with_reducible refine' x_slS ?hx ?hz ?_); (case hx => wtm_at "tx"); (case hz => decide))
  | ((with_reducible refine' x_lenX ?hx ?hz ?_); (case hx => wtm_at "tx"); (case hz => decide))
  | with_reducible refine l_max ?_
  | with_reducible refine l_min ?_
  | with_reducible refine l_abs ?_
  | with_reducible refine k_sl ?_
  | with_reducible refine k_part ?_
  | with_reducible refine l_part ?_
  | with_reducible refine k_nopart ?_
  | with_reducible refine k_yes ?_
  | ((with_reducible refine' l_slL ?hr ?hx ?_); (case hr => wtm_at "run"); (case hx => wtm_at "sq"); intro _ _ _ _ _ _ _ _)
  | with_reducible refine k_lcL ?_
  | with_reducible refine k_lcR ?_
  | with_reducible refine k_for ?_
  | with_reducible refine k_zip ?_
  | with_reducible refine k_rng1 ?_
  | with_reducible refine k_rng2 ?_
  | with_reducible refine k_rng3 ?_
  | with_reducible refine k_makeS ?_
  | ((with_reducible refine' l_make ?hr ?_); (case hr => wtm_at "run"); intro _ _ _ _ _ _ _ _ _)
  | with_reducible refine k_ntt ?_
  | with_reducible refine k_ntf ?_
  | with_reducible refine k_clear ?_
  | ((with_reducible refine' l_clear ?hr ?hx ?hw ?_); (case hr => wtm_at "run"); (case hx => wtm_at "hf"); (case hw => wtm_at "wr"); intro _ _ _ _)
  | with_reducible refine k_ift ?_
  | with_reducible refine k_iff ?_
  | with_reducible refine g_name ?_
  | with_reducible refine k_revL ?_
  | ((with_reducible refine' l_tupL ?hx ?_); (case hx => wtm_at "sq"))
  | with_reducible refine l_intB ?_
  | ((with_reducible refine' l_rev ?hx ?_); (case hx => wtm_at "sq"))
  | ((with_reducible refine' l_gT2 ?hn ?hx ?_); (case hn => exact rfl); (case hx => wtm_at "st"))
  | ((with_reducible refine' l_listL ?hx ?_); (case hx => wtm_at "sq"))
  | ((with_reducible refine' l_listT ?hx ?_); (case hx => wtm_at "st"))
  | fail)
local macro_rules | `(tactic| wtm_at "k") => `(tactic| first
  | with_reducible refine k_wholeI ?_
  | ((with_reducible refine' k_whole ?hx ?_); (case hx => first | rfl | assumption))
  | ((with_reducible refine' k_cell ?hx ?hy ?_); (case hx => first | decide | omega | assumption); (case hy => wtm_at "sq"))
  | fail)
theorem cutV_mid {xs : List V} {n : Nat} (h : n + 3 ≤ xs.length) : cutV xs (some (n : Int)) (some ((n : Int) + 3)) = (xs.drop n).take 3 := by
  have e : ((n : Int) + 3) = ((n + 3 : Nat) : Int) := by omega
  rw [e]
  unfold cutV
  rw [HT.sIx_nat, HT.sIx_nat, Nat.min_eq_left (by omega), Nat.min_eq_left (by omega)]
  congr 1
  omega
theorem drop3 {α : Type} {xs : List α} {n : Nat} {x y z : α} (h0 : xs[n]? = some x) (h1 : xs[n + 1]? = some y) (h2 : xs[n + 2]? = some z) : (xs.drop n).take 3 = [x, y, z] := by
  have l : n + 2 < xs.length := by
    rcases Nat.lt_or_ge (n + 2) xs.length with z | z
    · exact z
    · rw [List.getElem?_eq_none z] at h2; cases h2
  rw [List.drop_eq_getElem_cons (by omega), List.drop_eq_getElem_cons (by omega), List.drop_eq_getElem_cons (by omega)]
  rw [List.getElem?_eq_getElem (by omega)] at h0 h1 h2
  rw [Option.some.inj h0, Option.some.inj h1, Option.some.inj h2]
  rfl
theorem hst_new : Hst RoomS.new [] 0 [] 0 := ⟨Jl.new, List.Pairwise.nil, (fun _ z => by cases z), (fun _ z => by cases z), (fun i r e => by simp at e), (fun k => ⟨fun z => absurd rfl z, fun z => absurd rfl z⟩), Nat.le_refl _, (fun _ z => by cases z), List.nodup_nil, (fun _ z => by cases z), Int.le_refl _, fun _ => rfl⟩
theorem lok_new : LOk RoomS.new := ⟨(fun _ z => by cases z), (fun _ z => by cases z), ⟨(fun _ _ z => by cases z), List.nodup_nil, List.nodup_nil⟩, Int.le_refl _⟩
section
variable {P : Program} {w : World} {K : PySem.W.Frag} {mg : Str → Option Value} {base : Heap}
def sp_law (K : PySem.W.Frag) : Sp := fun vs H Q _ => ∃ (a : Addr) (ns : List Int), vs = [.ref a] ∧ ns.length ≤ 63 ∧ SqL K H a (ns.map V.int) ∧ ∀ H', Q (.bl true) H'
theorem sc_law : FnScope ["_law_script", "_law_room", "_law_m", "_law_lines", "_law_pool_here", "_law_k", "_law_one"] ["_law_script"] (defScope s_law) := ⟨rfl, rfl, rfl, by decide +kernel, rfl, by decide +kernel, by decide +kernel⟩
theorem ok_law (T : FX K mg) : FnOk P w K mg base (L2N.CX P w) 10 (He.ga K "law") (fdAt K ("law", none)) ["_law_script"] (sp_law K) := by
  refine FunD.ok T.F_law sc_law (fun vs H Q E h => ?_) (fun cdv A outer s H vs Q E hr h => ?_)
  · (repeat (obtain ⟨_, h⟩ := h)); subst_vars; rfl
  · have hu := hu_of hr
    have hu64 := hr.units
    refine ⟨_,
      (pss_cons
        (ps_set (i := 1) sc_law.nd rfl (Or.inl rfl) (pe_makeS0 T.mk_Room (ok_Room_init T) (hr.mono (j := 4) (by decide)) rfl T.g_Room T.b_Room_init (fun σ => L2N.passAt tkd σ)))
      (pss_cons
        (ps_set (i := 2) sc_law.nd rfl (Or.inl rfl) (pe_disp (pps_cons pe_str pe_int (pps_cons pe_str pe_dnewK pps_nil)) (by rfl) (by rfl) (fun z => by cases z) (by decide)))
      (pss_cons
        (ps_set (i := 3) sc_law.nd rfl (Or.inl rfl) (pe_lst pa_nil))
      (pss_cons
        (ps_set (i := 4) sc_law.nd rfl (Or.inl rfl) (pe_callS (ok_l_pool T) (hr.mono (j := 3) (by decide)) rfl T.g_l_pool T.k_l_pool T.b_l_pool (fun σ => L2N.passAt tkd σ) (pa_cons (pe_callS (ok_l_cell_at T) (hr.mono (j := 1) (by decide)) rfl T.g_l_cell_at T.k_l_cell_at T.b_l_cell_at (fun σ => L2N.passAt tkd σ) (pa_cons (pv 0) (pa_cons pe_int pa_nil))) (pa_cons (pe_callS (ok_l_cell_at T) (hr.mono (j := 1) (by decide)) rfl T.g_l_cell_at T.k_l_cell_at T.b_l_cell_at (fun σ => L2N.passAt tkd σ) (pa_cons (pv 0) (pa_cons pe_int pa_nil))) pa_nil))))
      (pss_cons
        (ps_if (pt_cmpR oIeq (pe_op oImod (pe_callS (ok_l_cell_at T) (hr.mono (j := 1) (by decide)) rfl T.g_l_cell_at T.k_l_cell_at T.b_l_cell_at (fun σ => L2N.passAt tkd σ) (pa_cons (pv 0) (pa_cons pe_int pa_nil))) pe_int) pe_int (nomark _))
          (pss_one
            (ps_expr (pe_callS (ok_l_crowd T) (hr.mono (j := 8) (by decide)) rfl T.g_l_crowd T.k_l_crowd T.b_l_crowd (fun σ => L2N.passAt tkd σ) (pa_cons (pv 1) (pa_cons (pv 2) (pa_cons (pe_callS (ok_l_cell_at T) (hr.mono (j := 1) (by decide)) rfl T.g_l_cell_at T.k_l_cell_at T.b_l_cell_at (fun σ => L2N.passAt tkd σ) (pa_cons (pv 0) (pa_cons pe_int pa_nil))) pa_nil))))))
          pss_nil)
      (pss_cons
        (ps_for pod rfl (pi_range3 rfl T.f_range (pa_cons pe_int (pa_cons (pe_op oIsub (pe_callB oLen (by rfl) T.f_len PySem.boot_len (pa_cons (pv 0) pa_nil)) pe_int) (pa_cons pe_int pa_nil)))) (pg_name (i := 5) sc_law.nd rfl (Or.inl rfl))
          (pss_one
            (ps_if (pt_not (pt_val (pe_callS (ok_l_step T) (hr.mono (j := 9) (by decide)) rfl T.g_l_step T.k_l_step T.b_l_step (fun σ => L2N.passAt tkd σ) (pa_cons (pv 1) (pa_cons (pv 2) (pa_cons (pv 3) (pa_cons (pv 4) (pa_cons (pe_slice sl_list (pv 0) (po_some (pv 5)) (po_some (pe_op oIadd (pv 5) pe_int))) pa_nil))))))))
              (pss_one
                (ps_ret pe_bl))
              pss_nil)))
      (pss_cons
        (ps_for pod rfl (pi_list (pv 3)) (pg_name (i := 6) sc_law.nd rfl (Or.inl rfl))
          (pss_cons
            (ps_expr (pe_methS (pe_ix ix_tup (pv 6) pe_int (fun _ _ => rfl)) T.cl_Line T.me_Line_turn (ok_Line_turn T) (hr.mono (j := 3) (by decide)) T.b_Line_turn (fun σ => L2N.passAt tkd σ) (pa_cons (pe_op oIadd (pe_meth0S (pv 1) T.cl_Room T.me_Room_last (ok_Room_last T) (hr.mono (j := 2) (by decide)) T.b_Room_last (fun σ => L2N.passAt tkd σ)) pe_int) (pa_cons pe_int pa_nil))))
          (pss_one
            (ps_if (pt_not (pt_val (pe_callS (ok_l_knows T) (hr.mono (j := 2) (by decide)) rfl T.g_l_knows T.k_l_knows T.b_l_knows (fun σ => L2N.passAt tkd σ) (pa_cons (pe_ix ix_tup (pv 6) pe_int (fun _ _ => rfl)) (pa_cons (pv 1) (pa_cons (pe_ix ix_tup (pv 6) pe_int (fun _ _ => rfl)) pa_nil))))))
              (pss_one
                (ps_ret pe_bl))
              pss_nil))))
      (pss_one
        (ps_ret (pe_callS (ok_l_stand T) (hr.mono (j := 2) (by decide)) rfl T.g_l_stand T.k_l_stand T.b_l_stand (fun σ => L2N.passAt tkd σ) (pa_cons (pv 1) (pa_cons (pv 2) pa_nil)))))))))))), ?_⟩
    obtain ⟨a, ns, rfl, hl, hS, k⟩ := h
    have R0 : Run [] H H := Run.start Live.nil
    repeat wtm_at "k"
    rename_i p dx Ha fa1 fa2 fa3 ra ha sa
    refine ⟨p, dx, rfl, ha, fun Hb F hR g0 eb => ⟨rfl, ?_⟩⟩
    have gF : ∀ c ∈ F, H c = none := fun c hc => (g0 c hc).elim (fun z => by rw [List.mem_singleton.mp z]; exact fa1) fun z => ra.ext.free z (by simp)
    have x0b : Ext [] H Hb := (ra.call eb (fun c h => .inr (by rw [List.mem_singleton.mp h]; exact fa1)) fun _ h => by cases h).ext
    have hSb := x0b.seqL (by simp) hS
    clear ra R0
    have Rb : Run [] Hb Hb := Run.start Live.nil
    repeat wtm_at "k"
    rename_i m H1 c1 c2 c3 r3 g3 s3 mi H2 d1 d2 d3 r4 g4 s4 H3 r5 g5 n5 la H4 u1 u2 u3 r6 g6 s6
    have nmi : m ≠ mi := by wtm_at "ne"
    have hmi3 : H3 mi = some (.dK (sk vo [])) := by wtm_at "hf"
    have hmi : H4 mi = some (.dK (sk vo [])) := s6 _ _ hmi3
    have hm : H4 m = some _ := s6 _ _ g5
    have nml : m ≠ la := ne_of_none g5 u3
    have nil : mi ≠ la := ne_of_none hmi3 u3
    have x4b : Ext [] Hb H4 := r6.ext
    have up : ∀ c, Hb c = none → H c = none := fun c h => x0b.free h (by simp)
    have hFm : ∀ c, Hb c = none → c ∉ F := fun c h y => hR.live c y h
    clear r3 g3 s3 r4 g4 s4 r5 n5 r6 s6 hSb Rb
    refine ⟨_, _, rfl, fun pp H8 ts npp e8 hpp => ?_⟩
    have x8b : Ext [] Hb H8 := x4b.trans e8
    have nppb : Hb pp = none := x4b.free npp (by simp)
    have z0 : Z9 K fLN p m la pp ts H 0 H8 F [m, mi] RoomS.new [] 0 [] [] [] := by
      have lD : ∀ c, Hb c = none → c ≠ m → c ≠ mi → c ∉ F ++ [m, mi] := fun c hc n1 n2 y => by
        rcases List.mem_append.mp y with y | y
        · exact hFm c hc y
        · simp only [List.mem_cons, List.not_mem_nil, or_false] at y
          exact y.elim n1 n2
      refine { s := { hR := hR.ext x8b (zero _), hM := ⟨[], ⟨mi, rfl, nmi, e8.keep _ _ hm (by simp), e8.keep _ _ hmi (by simp)⟩, (fun _ z => by cases z), (fun _ _ z => by cases z), Nat.le_refl _⟩, ap := fun c hc y => ?_, hs := hst_new, lo := lok_new, bd := ⟨Nat.le_refl _, Nat.le_refl _, Nat.le_refl _, Nat.le_refl _⟩ }, hl := e8.keep _ _ g6 (by simp), tl := .nil, ln := fun i s h => (by cases h), aD := fun s h => (by cases h), aa := .nil, nl := lD la u1 nml.symm nil.symm, nlL := fun s h => (by cases h), hp := hpp, np := lD pp nppb (fun y => by rw [y, hm] at npp; cases npp) (fun y => by rw [y, hmi] at npp; cases npp), npL := fun s h => (by cases h), nq := fun y => (by rw [y, g6] at npp; cases npp), inv := fun s h => (by cases h), ws := rfl, mt := rfl, lz := Nat.zero_le _, new := fun c hc => ?_, newL := fun s h => (by cases h), nla := up _ u1, ex := x0b.trans x8b }
      · simp only [List.mem_cons, List.not_mem_nil, or_false] at y
        exact y.elim (fun y => hFm m c1 (y ▸ hc)) fun y => hFm mi d1 (y ▸ hc)
      · rcases List.mem_append.mp hc with q | q
        · exact gF c q
        · simp only [List.mem_cons, List.not_mem_nil, or_false] at q
          rcases q with rfl | rfl
          · exact up _ c1
          · exact up _ d1
    have hS8 := z0.ex.seqL (by simp) hS
    clear npp e8 hpp g5 g6 x4b x8b hmi hm hmi3
    repeat wtm_at "k"
    refine k_fork (fun σ' H' => ∃ F G R rows g ml, σ' = [some (.ref a), some (.ref p), some (.ref m), some (.ref la), some (.ref pp), none, none] ∧ Z9 K fLN p m la pp ts H 41 H' F G R rows g ml [] []) (fun nx' ky => ?_) ?_
    · refine k_ifd (fun c1 => ?_) fun c1 => ?_
      · repeat wtm_at "k"
        refine ⟨p, m, _, _, _, _, _, _, _, rfl, z0.s, fun H' R' ext ml' s' ew em e => ?_⟩
        repeat wtm_at "k"
        exact ky _ _ ⟨_, _, _, _, _, _, rfl, z0.did s' ew em e⟩
      · repeat wtm_at "k"
        exact ky _ _ ⟨_, _, _, _, _, _, rfl, z0.mono (by decide)⟩
    rintro _ Hc ⟨F, G, R, rows, g, ml, rfl, z1⟩
    clear z0 hS8 gF x0b nppb
    have hSc := z1.ex.seqL (by simp) hS
    repeat wtm_at "k"
    have el : ((ns.map V.int).length : Int) = ns.length := by rw [List.length_map]
    refine l_rng3 ⟨by omega, by omega, by omega, by omega, by omega, by omega⟩ (l_rngC (fun i σ' H' => ∃ x5 F G R rows g ml ls tl, σ' = [some (.ref a), some (.ref p), some (.ref m), some (.ref la), some (.ref pp), x5, none] ∧ Z9 K fLN p m la pp ts H (41 + i) H' F G R rows g ml ls tl ∧ ∀ q ∈ ls, BegOk rows q) ⟨_, F, G, R, rows, g, ml, [], [], rfl, z1, fun q hq => by cases hq⟩ (fun i σ' H1 hi q => ?_) fun σ' H1 q => ?_)
    · clear hSc z1
      obtain ⟨x5, F, G, R, rows, g, ml, ls, tl, rfl, z, bg⟩ := q
      have hn := stepN_eq (i := 2) (j := ((ns.map V.int).length : Int) - 2) (c := 3) (by omega)
      have hn2 : (2 + (i : Int) * 3) + 2 < ns.length := by
        split at hn <;> omega
      have hi63 : i ≤ 20 := by omega
      have hS1 := z.ex.seqL (by simp) hS
      have R1 : Run [] H1 H1 := Run.start Live.nil
      have ei : (2 + (i : Int) * 3) = ((2 + i * 3 : Nat) : Int) := by omega
      rw [ei]
      obtain ⟨c0, ec0⟩ : ∃ c, (ns.map V.int)[2 + i * 3]? = some (.int c) := ⟨ns[2 + i * 3], by rw [List.getElem?_map, List.getElem?_eq_getElem (by omega)]; rfl⟩
      obtain ⟨c1, ec1⟩ : ∃ c, (ns.map V.int)[2 + i * 3 + 1]? = some (.int c) := ⟨ns[2 + i * 3 + 1], by rw [List.getElem?_map, List.getElem?_eq_getElem (by omega)]; rfl⟩
      obtain ⟨c2, ec2⟩ : ∃ c, (ns.map V.int)[2 + i * 3 + 2]? = some (.int c) := ⟨ns[2 + i * 3 + 2], by rw [List.getElem?_map, List.getElem?_eq_getElem (by omega)]; rfl⟩
      repeat wtm_at "k"
      rename_i cs H2 w1 w2 w3 r2 g2 s2
      rw [cutV_mid (by rw [List.length_map]; omega), drop3 ec0 ec1 ec2] at g2
      have nc1 : cs ∉ F ++ G := fun y => (List.mem_append.mp y).elim (fun y => z.s.hR.live _ y w1) fun y => z.s.hM.live _ y w1
      have nc2 : cs ≠ la := fun y => by rw [y, z.hl] at w1; cases w1
      have nc3 : ∀ s ∈ ls, cs ∉ s.FL := fun s hs y => by
        obtain ⟨j, hj, ej⟩ := List.mem_iff_getElem.mp hs
        exact (z.ln j s (by rw [List.getElem?_eq_getElem hj, ej])).live _ y w1
      refine ⟨p, m, la, pp, ts, H, 41 + i, F, G, R, rows, g, ml, ls, tl, cs, c0, c1, c2, rfl, z.same r2.ext, bg, g2, nc1, nc2, nc3, by omega, fun H3 F3 R3 rows3 g3 ml3 ls3 tl3 z3 bg3 => ?_⟩
      repeat wtm_at "k"
      exact ⟨_, F3, G, R3, rows3, g3, ml3, ls3, tl3, rfl, z3, bg3⟩
    clear hSc z1
    obtain ⟨x5, F, G, R, rows, g, ml, ls, tl, rfl, z, bg⟩ := q
    have hn := stepN_eq (i := 2) (j := ((ns.map V.int).length : Int) - 2) (c := 3) (by omega)
    have ni : stepN 2 (((ns.map V.int).length : Int) - 2) 3 ≤ 21 := by
      split at hn <;> omega
    replace z := z.mono (show 41 + stepN 2 (((ns.map V.int).length : Int) - 2) 3 ≤ 62 by omega)
    have hla := z.hl
    repeat wtm_at "k"
    refine l_for (xs := tl) (SqL.of hla) (fun i σ' H' => ∃ x6 R' ls', σ' = [some (.ref a), some (.ref p), some (.ref m), some (.ref la), some (.ref pp), x5, x6] ∧ Z9 K fLN p m la pp ts H 62 H' F G R' rows g ml ls' tl ∧ ∀ q ∈ ls', BegOk rows q) ⟨_, R, ls, rfl, z, bg⟩ (fun i σ' H' _ q => ?_) (fun i v σ' H2 ev q => ?_) fun σ' H2 q => ?_
    · obtain ⟨_, _, _, _, z', _⟩ := q
      exact SqL.of z'.hl
    · clear z hla bg
      obtain ⟨x6, R', ls', rfl, z', bg'⟩ := q
      obtain ⟨s, es, t, rfl, ht⟩ := getT z'.tl ev
      have ht : H2 t = some (.tup [.ref s.l, .str s.pre]) := ht
      obtain ⟨X, Fp, eF, S⟩ := id z'.s.hR
      obtain ⟨em, dxr, hp⟩ := S.r .me
      have elast : R'.G.last = rows.length := z'.s.hs.last
      obtain ⟨dx, ea, Fe, eFL, q1, q2, q3⟩ := id (z'.ln i s es)
      have li := (List.getElem?_eq_some_iff.mp es).1
      repeat wtm_at "k"
      refine ⟨p, F, R', rfl, z'.s.hR, ?_⟩
      rw [elast]
      repeat wtm_at "k"
      refine turn10 z' es (fun _ _ => rfl) (by omega) (by omega) fun H3 E3 x3 z3 eE3 eb had xx => ?_
      have bg3 := bg_set bg' es eb (x' := x3)
      have ht3 : H3 t = some (.tup [.ref s.l, .str s.pre]) := xx.tups _ _ ht
      have lS : (ls'.set i { s with E := E3, x := x3 })[i]? = some { s with E := E3, x := x3 } := List.getElem?_set_self li
      have full : E3.rows = wants rows s.pre s.start := (z3.inv _ (List.mem_of_getElem? lS)).all z3.s.hs.jl.nm (had rfl (by omega))
      repeat wtm_at "k"
      refine knows10 (s := { s with E := E3, x := x3 }) z3 lS (by omega) bg3 full fun H4 e4 => ?_
      repeat wtm_at "k"
      exact ⟨_, _, _, rfl, z3.same e4, bg3⟩
    · obtain ⟨x6, R', ls', rfl, z', bg'⟩ := q
      repeat wtm_at "k"
      exact stand10 z' (by omega) fun H4 _ => k H4
end
end LW

set_option maxHeartbeats 0
namespace LW
open PySem PySem.Spec PyProof.Rows L2
theorem fx_of {w : World} {K : PySem.W.Frag} {h : Heap} {mg : Str → Option Value} (X : K.In h) (G : h.Ns mainGlobals mg) (c0 : He.SaysX fa fn [] [] exq w h K) : FX K mg := by
  have c := c0.t.d
  exact ⟨
    He.glo_ok X G ((c.fact 0 (f := .glo "Ear") rfl)),
    He.glo_ok X G ((c.fact 1 (f := .glo "Line") rfl)),
    He.glo_ok X G ((c.fact 2 (f := .glo "LeaseError") rfl)),
    He.glo_ok X G ((c.fact 3 (f := .glo "BadTicks") rfl)),
    He.glo_ok X G ((c.fact 4 (f := .glo "NoLease") rfl)),
    He.glo_ok X G ((c.fact 5 (f := .glo "NoKey") rfl)),
    He.glo_ok X G ((c.fact 6 (f := .glo "Held") rfl)),
    He.glo_ok X G ((c.fact 7 (f := .glo "NoStart") rfl)),
    He.glo_ok X G ((c.fact 8 (f := .glo "NoWatch") rfl)),
    He.glo_ok X G ((c.fact 9 (f := .glo "Leases") rfl)),
    He.glo_ok X G ((c.fact 10 (f := .glo "Log") rfl)),
    He.glo_ok X G ((c.fact 11 (f := .glo "Watcher") rfl)),
    He.glo_ok X G ((c.fact 12 (f := .glo "Room") rfl)),
    He.glo_ok X G ((c.fact 13 (f := .glo "_wall") rfl)),
    He.glo_ok X G ((c.fact 14 (f := .glo "line_now") rfl)),
    He.glo_ok X G ((c.fact 15 (f := .glo "_law_whole") rfl)),
    He.glo_ok X G ((c.fact 16 (f := .glo "_law_cell_at") rfl)),
    He.glo_ok X G ((c.fact 17 (f := .glo "_law_sign") rfl)),
    He.glo_ok X G ((c.fact 18 (f := .glo "_law_text") rfl)),
    He.glo_ok X G ((c.fact 19 (f := .glo "_law_pool") rfl)),
    He.glo_ok X G ((c.fact 20 (f := .glo "_law_prefix") rfl)),
    He.glo_ok X G ((c.fact 21 (f := .glo "_law_only") rfl)),
    He.glo_ok X G ((c.fact 22 (f := .glo "_law_call") rfl)),
    He.glo_ok X G ((c.fact 23 (f := .glo "_law_done") rfl)),
    He.glo_ok X G ((c.fact 24 (f := .glo "_law_alike") rfl)),
    He.glo_ok X G ((c.fact 25 (f := .glo "_law_ticks") rfl)),
    He.glo_ok X G ((c.fact 26 (f := .glo "_law_deed") rfl)),
    He.glo_ok X G ((c.fact 27 (f := .glo "_law_pairs") rfl)),
    He.glo_ok X G ((c.fact 28 (f := .glo "_law_did") rfl)),
    He.glo_ok X G ((c.fact 29 (f := .glo "_law_key") rfl)),
    He.glo_ok X G ((c.fact 30 (f := .glo "_law_crowd") rfl)),
    He.glo_ok X G ((c.fact 31 (f := .glo "_law_knows") rfl)),
    He.glo_ok X G ((c.fact 32 (f := .glo "_law_stand") rfl)),
    He.glo_ok X G ((c.fact 33 (f := .glo "_law_begun") rfl)),
    He.glo_ok X G ((c.fact 34 (f := .glo "_law_step") rfl)),
    He.glo_ok X G ((c.fact 35 (f := .glo "law") rfl)),
    He.free_ok X G ((c.fact 36 (f := .free "isinstance") rfl)),
    He.free_ok X G ((c.fact 37 (f := .free "len") rfl)),
    He.free_ok X G ((c.fact 38 (f := .free "sorted") rfl)),
    He.free_ok X G ((c.fact 39 (f := .free "range") rfl)),
    He.free_ok X G ((c.fact 40 (f := .free "int") rfl)),
    He.free_ok X G ((c.fact 41 (f := .free "bool") rfl)),
    He.free_ok X G ((c.fact 42 (f := .free "str") rfl)),
    He.free_ok X G ((c.fact 43 (f := .free "list") rfl)),
    He.free_ok X G ((c.fact 44 (f := .free "tuple") rfl)),
    He.free_ok X G ((c.fact 45 (f := .free "ValueError") rfl)),
    He.free_ok X G ((c.fact 46 (f := .free "min") rfl)),
    He.free_ok X G ((c.fact 47 (f := .free "max") rfl)),
    He.free_ok X G ((c.fact 48 (f := .free "abs") rfl)),
    He.free_ok X G ((c.fact 49 (f := .free "zip") rfl)),
    He.int_ok X G ((c.fact 50 (f := .int "MOST_TICKS" 1000000) rfl)),
    He.exc_ok ((c.fact 51 (f := .exc "LeaseError") rfl)),
    He.exc_ok ((c.fact 52 (f := .exc "BadTicks") rfl)),
    He.exm_ok ((c.fact 53 (f := .exm "BadTicks" "LeaseError" true) rfl)),
    He.exc_ok ((c.fact 54 (f := .exc "NoLease") rfl)),
    He.exm_ok ((c.fact 55 (f := .exm "NoLease" "LeaseError" true) rfl)),
    He.exc_ok ((c.fact 56 (f := .exc "NoKey") rfl)),
    He.exm_ok ((c.fact 57 (f := .exm "NoKey" "LeaseError" true) rfl)),
    He.exc_ok ((c.fact 58 (f := .exc "Held") rfl)),
    He.exm_ok ((c.fact 59 (f := .exm "Held" "LeaseError" true) rfl)),
    He.exc_ok ((c.fact 60 (f := .exc "NoStart") rfl)),
    He.exm_ok ((c.fact 61 (f := .exm "NoStart" "LeaseError" true) rfl)),
    He.exc_ok ((c.fact 62 (f := .exc "NoWatch") rfl)),
    He.exm_ok ((c.fact 63 (f := .exm "NoWatch" "LeaseError" true) rfl)),
    exk_of (ba1 c0.more),
    insK_of (ba2 c0.more),
    He.cls_ok ((c.fact 64 (f := .cls "Ear") rfl)),
    He.mkr_ok ((c.fact 65 (f := .mkr "Ear") rfl)),
    He.noat_ok ((c.fact 66 (f := .noat "Ear" "behind") rfl)),
    He.noat_ok ((c.fact 67 (f := .noat "Ear" "begun") rfl)),
    He.noat_ok ((c.fact 68 (f := .noat "Ear" "rows") rfl)),
    He.meth_ok ((c.fact 69 (f := .meth "Ear" "hear") rfl)),
    He.meth_ok ((c.fact 70 (f := .meth "Ear" "heard") rfl)),
    He.meth_ok ((c.fact 71 (f := .meth "Ear" "state") rfl)),
    He.cls_ok ((c.fact 72 (f := .cls "Line") rfl)),
    He.mkr_ok ((c.fact 73 (f := .mkr "Line") rfl)),
    He.noat_ok ((c.fact 74 (f := .noat "Line" "room") rfl)),
    He.noat_ok ((c.fact 75 (f := .noat "Line" "watcher") rfl)),
    He.noat_ok ((c.fact 76 (f := .noat "Line" "ear") rfl)),
    He.meth_ok ((c.fact 77 (f := .meth "Line" "turn") rfl)),
    He.cls_ok ((c.fact 78 (f := .cls "Leases") rfl)),
    He.mkr_ok ((c.fact 79 (f := .mkr "Leases") rfl)),
    He.noat_ok ((c.fact 80 (f := .noat "Leases" "given") rfl)),
    He.noat_ok ((c.fact 81 (f := .noat "Leases" "spans") rfl)),
    He.noat_ok ((c.fact 82 (f := .noat "Leases" "ends") rfl)),
    He.meth_ok ((c.fact 83 (f := .meth "Leases" "grant") rfl)),
    He.meth_ok ((c.fact 84 (f := .meth "Leases" "need") rfl)),
    He.meth_ok ((c.fact 85 (f := .meth "Leases" "renew") rfl)),
    He.meth_ok ((c.fact 86 (f := .meth "Leases" "drop") rfl)),
    He.meth_ok ((c.fact 87 (f := .meth "Leases" "due") rfl)),
    He.cls_ok ((c.fact 88 (f := .cls "Log") rfl)),
    He.mkr_ok ((c.fact 89 (f := .mkr "Log") rfl)),
    He.noat_ok ((c.fact 90 (f := .noat "Log" "rows") rfl)),
    He.noat_ok ((c.fact 91 (f := .noat "Log" "gone") rfl)),
    He.meth_ok ((c.fact 92 (f := .meth "Log" "note") rfl)),
    He.meth_ok ((c.fact 93 (f := .meth "Log" "last") rfl)),
    He.meth_ok ((c.fact 94 (f := .meth "Log" "first") rfl)),
    He.meth_ok ((c.fact 95 (f := .meth "Log" "wanted") rfl)),
    He.meth_ok ((c.fact 96 (f := .meth "Log" "forget") rfl)),
    He.cls_ok ((c.fact 97 (f := .cls "Watcher") rfl)),
    He.mkr_ok ((c.fact 98 (f := .mkr "Watcher") rfl)),
    He.noat_ok ((c.fact 99 (f := .noat "Watcher" "prefix") rfl)),
    He.noat_ok ((c.fact 100 (f := .noat "Watcher" "had") rfl)),
    He.noat_ok ((c.fact 101 (f := .noat "Watcher" "told") rfl)),
    He.cls_ok ((c.fact 102 (f := .cls "Room") rfl)),
    He.mkr_ok ((c.fact 103 (f := .mkr "Room") rfl)),
    He.noat_ok ((c.fact 104 (f := .noat "Room" "now") rfl)),
    He.noat_ok ((c.fact 105 (f := .noat "Room" "leases") rfl)),
    He.noat_ok ((c.fact 106 (f := .noat "Room" "log") rfl)),
    He.noat_ok ((c.fact 107 (f := .noat "Room" "kept") rfl)),
    He.noat_ok ((c.fact 108 (f := .noat "Room" "watchers") rfl)),
    He.noat_ok ((c.fact 109 (f := .noat "Room" "met") rfl)),
    He.meth_ok ((c.fact 110 (f := .meth "Room" "grant") rfl)),
    He.meth_ok ((c.fact 111 (f := .meth "Room" "renew") rfl)),
    He.meth_ok ((c.fact 112 (f := .meth "Room" "drop") rfl)),
    He.meth_ok ((c.fact 113 (f := .meth "Room" "wait") rfl)),
    He.meth_ok ((c.fact 114 (f := .meth "Room" "free") rfl)),
    He.meth_ok ((c.fact 115 (f := .meth "Room" "put") rfl)),
    He.meth_ok ((c.fact 116 (f := .meth "Room" "cut") rfl)),
    He.meth_ok ((c.fact 117 (f := .meth "Room" "value") rfl)),
    He.meth_ok ((c.fact 118 (f := .meth "Room" "holder") rfl)),
    He.meth_ok ((c.fact 119 (f := .meth "Room" "pairs") rfl)),
    He.meth_ok ((c.fact 120 (f := .meth "Room" "last") rfl)),
    He.meth_ok ((c.fact 121 (f := .meth "Room" "first") rfl)),
    He.meth_ok ((c.fact 122 (f := .meth "Room" "watch") rfl)),
    He.meth_ok ((c.fact 123 (f := .meth "Room" "need") rfl)),
    He.meth_ok ((c.fact 124 (f := .meth "Room" "pull") rfl)),
    He.meth_ok ((c.fact 125 (f := .meth "Room" "confirm") rfl)),
    He.meth_ok ((c.fact 126 (f := .meth "Room" "broken") rfl)),
    He.meth_ok ((c.fact 127 (f := .meth "Room" "leave") rfl)),
    He.meth_ok ((c.fact 128 (f := .meth "Room" "trim") rfl)),
    fdAt_of (c.def_ 0 (d := d0) rfl),
    fdAt_of (c.def_ 1 (d := d1) rfl),
    fdAt_of (c.def_ 2 (d := d2) rfl),
    fdAt_of (c.def_ 3 (d := d3) rfl),
    fdAt_of (c.def_ 4 (d := d4) rfl),
    fdAt_of (c.def_ 5 (d := d5) rfl),
    fdAt_of (c.def_ 6 (d := d6) rfl),
    fdAt_of (c.def_ 7 (d := d7) rfl),
    fdAt_of (c.def_ 8 (d := d8) rfl),
    fdAt_of (c.def_ 9 (d := d9) rfl),
    fdAt_of (c.def_ 10 (d := d10) rfl),
    fdAt_of (c.def_ 11 (d := d11) rfl),
    fdAt_of (c.def_ 12 (d := d12) rfl),
    fdAt_of (c.def_ 13 (d := d13) rfl),
    fdAt_of (c.def_ 14 (d := d14) rfl),
    fdAt_of (c.def_ 15 (d := d15) rfl),
    fdAt_of (c.def_ 16 (d := d16) rfl),
    fdAt_of (c.def_ 17 (d := d17) rfl),
    fdAt_of (c.def_ 18 (d := d18) rfl),
    fdAt_of (c.def_ 19 (d := d19) rfl),
    fdAt_of (c.def_ 20 (d := d20) rfl),
    fdAt_of (c.def_ 21 (d := d21) rfl),
    fdAt_of (c.def_ 22 (d := d22) rfl),
    fdAt_of (c.def_ 23 (d := d23) rfl),
    fdAt_of (c.def_ 24 (d := d24) rfl),
    fdAt_of (c.def_ 25 (d := d25) rfl),
    fdAt_of (c.def_ 26 (d := d26) rfl),
    fdAt_of (c.def_ 27 (d := d27) rfl),
    fdAt_of (c.def_ 28 (d := d28) rfl),
    fdAt_of (c.def_ 29 (d := d29) rfl),
    fdAt_of (c.def_ 30 (d := d30) rfl),
    fdAt_of (c.def_ 31 (d := d31) rfl),
    fdAt_of (c.def_ 32 (d := d32) rfl),
    fdAt_of (c.def_ 33 (d := d33) rfl),
    fdAt_of (c.def_ 34 (d := d34) rfl),
    fdAt_of (c.def_ 35 (d := d35) rfl),
    fdAt_of (c.def_ 36 (d := d36) rfl),
    fdAt_of (c.def_ 37 (d := d37) rfl),
    fdAt_of (c.def_ 38 (d := d38) rfl),
    fdAt_of (c.def_ 39 (d := d39) rfl),
    fdAt_of (c.def_ 40 (d := d40) rfl),
    fdAt_of (c.def_ 41 (d := d41) rfl),
    fdAt_of (c.def_ 42 (d := d42) rfl),
    fdAt_of (c.def_ 43 (d := d43) rfl),
    fdAt_of (c.def_ 44 (d := d44) rfl),
    fdAt_of (c.def_ 45 (d := d45) rfl),
    fdAt_of (c.def_ 46 (d := d46) rfl),
    fdAt_of (c.def_ 47 (d := d47) rfl),
    fdAt_of (c.def_ 48 (d := d48) rfl),
    fdAt_of (c.def_ 49 (d := d49) rfl),
    fdAt_of (c.def_ 50 (d := d50) rfl),
    fdAt_of (c.def_ 51 (d := d51) rfl),
    fdAt_of (c.def_ 52 (d := d52) rfl),
    fdAt_of (c.def_ 53 (d := d53) rfl),
    fdAt_of (c.def_ 54 (d := d54) rfl),
    fdAt_of (c.def_ 55 (d := d55) rfl),
    fdAt_of (c.def_ 56 (d := d56) rfl),
    fdAt_of (c.def_ 57 (d := d57) rfl),
    fdAt_of (c.def_ 58 (d := d58) rfl),
    fdAt_of (c.def_ 59 (d := d59) rfl),
    fdAt_of (c.def_ 60 (d := d60) rfl),
    fdAt_of (c.def_ 61 (d := d61) rfl)⟩
end LW
open PySem PySem.W PySem.Calls PyProof.Rows
theorem PySem.Challenge.cw_leasewatch_k10_whole_ears_know_what_stan_holds : PySem.Challenge.rw_leasewatch_k10_whole_ears_know_what_stan.Holds := by
    refine LW.holds_by ?_
    refine L2.walk_ofE (l := PySem.Challenge.rw_leasewatch_k10_whole_ears_know_what_stan) (n := 63) (k := 10) (x := "_law_script") (CX := L2.CX0) rfl (by decide) (by kernel_rfl) ⟨rfl, by decide, by decide⟩ ?F (fun _ _ _ _ z => z)
    intro w mg fa h Y G hmg0
    obtain ⟨K, KX, c⟩ := Y
    have hmg : mg ("law" : PySem.Str) = some (.ref fa) := by
      have e : (HandSHeadRun.topDef (OpenLaw.row PySem.Challenge.rw_leasewatch_k10_whole_ears_know_what_stan).prog 42).name = ("law" : PySem.Str) := by kernel_rfl
      rw [← e]
      exact hmg0
    have T := LW.fx_of KX G c
    have e := hmg.symm.trans T.g_law
    cases e
    have b := L2.FunD.bindsA (ps := ["_law_script"]) T.F_law fun _ _ _ _ _ _ us hl => match us, hl with | [_], _ => rfl
    exact ⟨K, LW.fdAt K ("law", none), LW.sp_law K, KX, fun s v => b s [v] rfl, fun H a ns hl _ hS => ⟨a, ns, rfl, hl, hS, fun _ => rfl⟩, fun base _ _ => LW.fn_out (LW.ok_law T) fun _ _ _ _ z => z⟩
