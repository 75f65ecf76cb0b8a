import PyProof.Rows.All
import Wide.All
import OpenK.AllK
import Wide.FinOn
import PyProof.EqAt
import PyProof.EqKinds
import PyProof.TupleCall
import KE.KStateDown
import Lean
import HandS.ForMost
import HandS.ForExc
import HandS.ExcIs
import HandS.IsInst
import HandS.Flow
import HandS.StrMore
import HandS.RevRange
import HandS.Deep
import HandS.DeepEq
import HandS.Defaults
import HandS.Evl
import HandS.Head0
import HandS.Head1
import HandS.Head2
import HandS.HeadEnd
import HandS.HeadHook1
import HandS.HeadHook2
import HandS.HeadHook3
import HandS.HeadHook4
import PySem.Challenge.RW_linehand_k30_whole_histories
set_option Elab.async false
set_option linter.all false
set_option maxRecDepth 100000
set_option maxHeartbeats 4000000
namespace LH
open PySem PySem.Spec PyProof.Rows L2

/-! ### a def, a method, a class that keeps its promise, by names -/
section
variable (P : Program) (w : World) (K : PySem.W.Frag) (mg : Str → Option Value) (base : Heap)
structure Fn (x : Str) (k : Nat) (ps : List Str) (sp : Sp) : Prop where
  ex : ∃ f fd, FnOk P w K mg base (L2.CX P w) k f fd ps sp ∧ mg x = some (.ref f) ∧ PySem.W.keepIn K (.ref f) = true ∧ Binds K fd ps [] ∧ ∀ (s : Shared) (us : List Value), us.length = ps.length → BindsTo s fd ⟨us, []⟩ (ps.zip us)
structure Mt (C : Addr) (m : Str) (k : Nat) (ps : List Str) (sp : Sp) : Prop where
  ex : ∃ f fd, FnOk P w K mg base (L2.CX P w) k f fd ps sp ∧ Meth K C m f ∧ Cls K C ∧ Binds K fd ps []
structure Mkr (x : Str) (C : Addr) (k : Nat) (ps : List Str) (sp : Sp) : Prop where
  ex : ∃ f fd, FnOk P w K mg base (L2.CX P w) k f fd ps sp ∧ Mk K C f ∧ mg x = some (.ref C) ∧ Binds K fd ps []
end

section
variable {X : Cx} {W : WX} {k : Nat} {ps : List Str} {sp : Sp} {x m : Str} {C : Addr} {p pos apos : Pos} {e o : Expr} {es : List Expr} {t : TA} {ta : TE}
theorem pe_fn (F : Fn X.prog X.w X.K X.mg X.base x k ps sp) (hr : Room k X.A) (tk : Takes X W) (ha : PA X (e :: es) t) (hg : Gl X x := by rfl) (hdb : (x == ("__debug__" : Str)) = false := by decide)
    (he : starEach (e :: es) X.env = (false, eval e X.env) :: starEach es X.env := by rfl) (hpl : (backTo pos (starEach es X.env)).any (·.1) = false := by rfl) : PE X (.Call (.Name x p) (e :: es) [] pos) (tCallS sp (WE W) t) := by
  obtain ⟨f, fd, F, hm, hk, hb, _⟩ := F.ex
  exact pe_callS F hr hg hm hk hb (passAt tk) ha hdb he hpl
theorem pe_fn0 (F : Fn X.prog X.w X.K X.mg X.base x k ps sp) (hr : Room k X.A) (tk : Takes X W) (hg : Gl X x := by rfl) (hdb : (x == ("__debug__" : Str)) = false := by decide) : PE X (.Call (.Name x p) [] [] pos) (tCallS sp (WE W) tNil) := by
  obtain ⟨f, fd, F, hm, hk, hb, _⟩ := F.ex
  refine ⟨fun pins s σ H Q I h => ?_⟩
  refine wpAny_Call_Name_kw (ld_glob I hg hm ?_ hdb)
  exact PySem.W.callWith_K0 I.kIn hk (run_fnS (us := []) (vs := []) F hr hb (passAt tk σ) I .nil h)
def tMt (C : Addr) (m : Str) (sp : Sp) (E : L2.St → XK) (ta : TE) (t : TA) : TE := fun σ H Q => ta σ H fun x H1 => ∃ a dx fs, x = .ref a ∧ H1 a = some (.ins C dx fs) ∧ fs.lookup m = none ∧ t σ H1 fun vs H2 => sp (x :: vs) H2 Q (E σ)
theorem pe_mt {pl : Sem Bool} (he : PE X o ta) (M : Mt X.prog X.w X.K X.mg X.base C m k ps sp) (hr : Room k X.A) (tk : Takes X W) (ha : PA X (e :: es) t)
    (hst : starEach (e :: es) X.env = (false, eval e X.env) :: starEach es X.env := by rfl) (hpl : (backTo pos (starEach es X.env)).any (·.1) = false := by rfl)
    (ht : eval (.Call (.Attribute o m apos) (e :: es) [] pos) X.env = (eval o X.env >>= fun ov => standAt apos.atName >>= fun _ => holding [ov] (getMethod ov m pl) >>= fun q => callWith pos q.1 q.2 (backTo pos (starEach (e :: es) X.env)) (backToKw pos (keywordEach [] X.env))) := by rfl) :
    PE X (.Call (.Attribute o m apos) (e :: es) [] pos) (tMt C m sp (WE W) ta t) := by
  obtain ⟨f, fd, F, hm, c, hb⟩ := M.ex
  refine ⟨fun pins s σ H Q I h => PySem.W.methodCall_KW (pl := pl) (thn (he.run pins s σ H _ I h) ?_) ht⟩
  rintro u s1 ⟨x, H1, I1, rx, a, dx, fs, rfl, ea, l, q⟩
  obtain rfl : u = Value.ref a := rx
  refine getmeth_ok I1 ea c hm l (PySem.W.callWith_K (first := [.ref a]) (h₀ := X.base) I.ok.mod.kin hm.kp (thn (ha.run pos pins s1 σ H1 _ I1 q) ?_) hst hpl)
  rintro us s2 ⟨vs, H2, I2, r, q2⟩
  exact ⟨I2.kIn, run_fnS (us := .ref a :: us) (vs := .ref a :: vs) F hr hb (passAt tk σ) I2 (.cons rfl r) q2⟩
theorem pe_mt0 {pl : Sem Bool} (he : PE X o ta) (M : Mt X.prog X.w X.K X.mg X.base C m k ps sp) (hr : Room k X.A) (tk : Takes X W)
    (ht : eval (.Call (.Attribute o m apos) [] [] pos) X.env = (eval o X.env >>= fun ov => standAt apos.atName >>= fun _ => holding [ov] (getMethod ov m pl) >>= fun q => callWith pos q.1 q.2 (backTo pos (starEach [] X.env)) (backToKw pos (keywordEach [] X.env))) := by rfl) :
    PE X (.Call (.Attribute o m apos) [] [] pos) (tMt C m sp (WE W) ta tNil) := by
  obtain ⟨f, fd, F, hm, c, hb⟩ := M.ex
  refine ⟨fun pins s σ H Q I h => PySem.W.methodCall_KW (pl := pl) (thn (he.run pins s σ H _ I h) ?_) ht⟩
  rintro u s1 ⟨x, H1, I1, rx, a, dx, fs, rfl, ea, l, q⟩
  obtain rfl : u = Value.ref a := rx
  exact getmeth_ok I1 ea c hm l (PySem.W.callWith_K0 (first := [.ref a]) I1.kIn hm.kp (run_fnS (us := [.ref a]) (vs := [.ref a]) F hr hb (passAt tk σ) I1 (.cons rfl .nil) q))
def tMk (C : Addr) (sp : Sp) (E : L2.St → XK) (t : TA) : TE := fun σ H Q => t σ H fun vs H1 => ∀ x dx, H1 x = none → H1 dx = none → dx ≠ x →
  sp (.ref x :: vs) (upd (upd H1 dx (.own x)) x (.ins C dx [])) (fun v H2 => v = .non ∧ Q (.ref x) H2) (E σ)
theorem run_mkS {f : Addr} {fd : FuncData} {E : XK} {pins : List (Addr × Obj)} {σ : L2.St} {H : Hp} {s : Shared} {Q : VK} {us : List Value} {vs : List V} (M : Mk X.K C f) (F : FnOk X.prog X.w X.K X.mg X.base (L2.CX X.prog X.w) k f fd ps sp) (hr : Room (k + 1) X.A) (hb : Binds X.K fd ps [])
    (hx : PassesAt (L2.CX X.prog X.w) X σ E) (I : Inv X pins σ H s) (r : Vals vs us)
    (h : ∀ x dx, H x = none → H dx = none → dx ≠ x → sp (.ref x :: vs) (upd (upd H dx (.own x)) x (.ins C dx [])) (fun v H2 => v = .non ∧ Q (.ref x) H2) E) : wpAny (model X.prog X.w) X.A (call (.ref C) us) (EP X pins σ Q) X.xe s := by
  have hq := h (s.heap.objs.size + 1) s.heap.objs.size (I.hok.fresh (Nat.le_succ _)) (I.hok.fresh (Nat.le_refl _)) (Nat.ne_of_lt (Nat.lt_succ_self _))
  have J := Inv.made (C := C) I
  have r2 : Vals (V.ref (s.heap.objs.size + 1) :: vs) (Value.ref (s.heap.objs.size + 1) :: us) := .cons rfl r
  have hl : ((Value.ref (s.heap.objs.size + 1) :: us) ++ []).length = ps.length := by
    rw [List.append_nil, ← r2.length, F.len _ _ _ _ hq]
  have hbs := hb _ (Value.ref (s.heap.objs.size + 1) :: us) J.kIn hl
  rw [List.append_nil] at hbs
  refine wpAny_call (make_map (f := f) I.kIn M.makes M.init (beq_iff_eq.mp M.fn) (codeAny_mono (F.run _ X.stack _ _ ⟨Value.ref (s.heap.objs.size + 1) :: us, []⟩ _ _ _ E (hr.make C us []) (J.env0.make C us []) hbs r2 hq) ?_))
  rintro (e | fl) s' hz
  · exact hx pins _ _ e s' J hz
  · cases fl with
    | ret u =>
      obtain ⟨v, H', I3, rv, ev, q3⟩ := J.after hz
      subst ev
      exact ⟨rv, ⟨V.ref (s.heap.objs.size + 1), H', I3, rfl, q3⟩⟩
    | _ => exact False.elim hz
theorem pe_mk (M : Mkr X.prog X.w X.K X.mg X.base x C k ps sp) (hr : Room (k + 1) X.A) (tk : Takes X W) (ha : PA X (e :: es) t) (hg : Gl X x := by rfl) (hdb : (x == ("__debug__" : Str)) = false := by decide)
    (he : starEach (e :: es) X.env = (false, eval e X.env) :: starEach es X.env := by rfl) (hpl : (backTo pos (starEach es X.env)).any (·.1) = false := by rfl) : PE X (.Call (.Name x p) (e :: es) [] pos) (tMk C sp (WE W) t) := by
  obtain ⟨f, fd, F, M, hm, hb⟩ := M.ex
  refine ⟨fun pins s σ H Q I h => wpAny_Call_Name_kw (ld_glob I hg hm (PySem.W.callWith_K (h₀ := X.base) I.ok.mod.kin M.kp (thn (ha.run pos pins s σ H _ I h) ?_) he hpl) hdb)⟩
  rintro us s1 ⟨vs, H1, I1, r, q⟩
  exact ⟨I1.kIn, run_mkS M F hr hb (passAt tk σ) I1 r q⟩
end
theorem fnok0 {P : Program} {w : World} {K : PySem.W.Frag} {mg : Str → Option Value} {base : Heap} {k : Nat} {f : Addr} {fd : FuncData} {ps : List Str} {sp : Sp} (F : FnOk P w K mg base (L2.CX P w) k f fd ps sp) (h : ∀ vs H Q E, sp vs H Q E → sp vs H Q E0) : FnOk P w K mg base CX0 k f fd ps sp := by
  refine ⟨F.len, fun A outer s H args us vs Q E hr he hb hv hs => codeAny_mono (F.run A outer s H args us vs Q E0 hr he hb hv (h _ _ _ _ hs)) ?_⟩
  rintro (e | fl) s' q
  · obtain ⟨_, _, _, _, _, _, _, _, _, _, _, _, z⟩ := q
    exact z.elim
  · cases fl <;> exact q

/-! ### a caught exception is tracked behind its suite -/
/-- an exception object of the class cls at a -/
def XO (cls : Value) (d : Option Addr) (a : Addr) : HO := .ext fun h => ∃ (oe : Obj) (vs : Array Value), h.get? a = some oe ∧ Zc cls d oe ∧ oe.data = .fields vs
theorem xo_ok {P : Program} {w : World} {H : Hp} {h : Heap} {a : Addr} {cls : Value} {d : Option Addr} {oe : Obj} {vs : Array Value} (e : h.get? a = some oe) (z : Zc cls d oe) (dd : oe.data = .fields vs) : ObjOk P w H h a (XO cls d a) :=
  ⟨⟨oe, vs, e, z, dd⟩, ⟨oe, e⟩, fun _ _ ⟨o, v, q, r⟩ k => ⟨o, v, k o q, r⟩⟩
section
variable {X : Cx} {pins : List (Addr × Obj)} {σ : L2.St} {H : Hp} {s : Shared}
theorem track {a : Addr} {ho : HO} (I : Inv X pins σ H s) (hn : H a = none) (h0 : X.s_0.heap.get? a = none) (hL : a ≠ X.env.locals) (hp : ∀ p ∈ X.pn ++ pins, p.1 ≠ a)
    (hc : ∀ x c, X.env.cells.lookup x = some c → c ≠ a) (ok : ObjOk X.prog X.w (upd H a ho) s.heap a ho) : Inv X pins σ (upd H a ho) s := by
  have nz : ∀ b u, H b = some u → b ≠ a := fun b u e => ne_of_none e hn
  have n0 : ∀ b o, X.s_0.heap.get? b = some o → b ≠ a := fun b o e z => by rw [z, h0] at e; cases e
  have B := I.base
  refine ⟨I.ok, I.os, I.bare, ⟨B.keep, B.slot, fun b o e n hx => ?_, B.there, fun b xs e => ?_, fun b o u e => ?_, fun b ps e => ?_⟩, I.loc, I.cell, ?_, fun x c e => ?_, fun p q => ?_, fun b u e => ?_, I.len⟩
  · rw [upd_ne (n0 b o e)]; exact B.free b o e n hx
  · have q := B.tups b xs e; rw [upd_ne (nz b _ q)]; exact q
  · have q := B.frzs b o u e; rw [upd_ne (nz b _ q)]; exact q
  · obtain ⟨m, q⟩ := B.tbls b ps e; exact ⟨m, by rw [upd_ne (nz b _ q)]; exact q⟩
  · rw [upd_ne (Ne.symm hL)]; exact I.free
  · rw [upd_ne (hc x c e)]; exact I.freeC x c e
  · obtain ⟨a1, a2, a3⟩ := I.pin p q; exact ⟨a1, by rw [upd_ne (hp p q)]; exact a2, a3⟩
  · by_cases hb : b = a
    · subst hb; rw [upd_same] at e; cases e; exact ok
    · rw [upd_ne hb] at e
      exact (I.hok b u e).stay (fun c v _ q => q) (fun c q => by rw [upd_ne (nz c _ q)]; exact q) fun c xs q => by rw [upd_ne (nz c _ q)]; exact q
/-- what is wished of a raise in the body: the suite's reading, behind it the exception is tracked -/
def wTrk (K : PySem.W.Frag) (c : Value) (i : Nat) (ts : Addr → Value → Option Addr → TS) (Wout : WX) (D : Ends) : WX := fun cls d σ H =>
  ∃ b, PySem.W.exmOne K cls c = some b ∧ (b = true → ∀ a, H a = none → ts a cls d { nx := fun σ' H' => H' a = none → D.nx (σ'.set i none) (upd H' a (XO cls d a)), rt := fun v H' => H' a = none → D.rt v (upd H' a (XO cls d a)), bk := fun σ' H' => H' a = none → D.bk (σ'.set i none) (upd H' a (XO cls d a)), ct := fun σ' H' => H' a = none → D.ct (σ'.set i none) (upd H' a (XO cls d a)) } (σ.set i (some (.ref a))) H) ∧
    (b = false → Wout cls d σ H)
variable {i : Nat} {n x : Str} {c : Value} {body suite : List Stmt} {b0 : Stmt} {np pos pos' : Pos} {tb : WX → TS} {ts : Addr → Value → Option Addr → TS} {Wout : WX}
theorem ps_try_trk (hs : X.stack = X.env :: X.outer) (hf : X.env.frame = some X.env.locals) (hex : X.ex = []) (hN : X.N.Nodup) (hi : X.N[i]? = some n) (hln : X.env.kindOf n = some .local) (hc : Names X x c) (tk : Takes X Wout)
    (hb : ∀ (W : WX) (pn : List (Addr × Obj)) (xe : Value → Shared → Prop), Takes (X.tr pn xe) W → PassesOwn (model X.prog X.w) X.A X.env xe → PSs (X.tr pn xe) body (tb W))
    (hsu : ∀ (a : Addr) (oe : Obj) (cls : Value) (d : Option Addr) (pn : List (Addr × Obj)), Zc cls d oe → (∃ vs, oe.data = .fields vs) → PSs (X.suite a ((a, oe) :: pn)) (b0 :: suite) (ts a cls d)) :
    PS X (.Try body [.ExceptHandler (some (.Name x np)) (some n) (b0 :: suite) pos'] [] [] pos) (fun D σ H => tb (wTrk X.K c i ts Wout D) D σ H) := by
  refine ⟨fun pins s σ H D I h => wpAny_Try_except ?_⟩
  have ok := I.ok
  have hfr : X.A.frames = some (X.env :: X.outer) := ok.frames.trans (congrArg some hs)
  have hloc : Loc X.env.scope n := .inl hln
  refine wpAny_mono ((hb (wTrk X.K c i ts Wout D) (X.pn ++ pins) (fun e s1 => wpAny (model X.prog X.w) X.A (noteFrame e X.env) (fun _ s2 => wpAny (model X.prog X.w) X.A (setFlight e none) (fun _ s3 => wpAny (model X.prog X.w) X.A (handleBy e X.env [.ExceptHandler (some (.Name x np)) (some n) (b0 :: suite) pos']) (SP X pins D) X.xe s3) X.xe s2) X.xe s1) (fun u s' xx => ?_) PassesOwn.looking).run [] s σ H D (I.toTry _) h) (fun f s1 hsp => ?_) (fun e s1 he => he)
  · obtain ⟨a, B, sI, pins', σ', H', cls, d, rfl, J', nb, up, sky, na, os, ag, b, hb1, hyes, hno⟩ := xx
    have J : Inv X pins σ' H' sI := J'.ofTry ok
    refine Sky.land Zc.steady hfr hf (hs ▸ sky) fun h3 fl3 up3 => ?_
    have J3 : Inv X pins σ' H' { s' with heap := h3 } := J.landed nb fl3.1 (up.trans up3) os ag
    obtain ⟨oe3, vs3, he3, hz3, hd3⟩ := fl3.there
    have nfr : a ∉ frs (X.env :: X.outer) := fun hm => by
      obtain ⟨_, o', e', hnf⟩ := fl3.2.2.1.mem hm
      rw [he3] at e'; cases e'
      exact hnf _ hd3
    have nL : a ≠ X.env.locals := fun z => nfr (List.mem_filterMap.mpr ⟨X.env, List.mem_cons_self, by rw [hf, z]⟩)
    have nF : a ∉ X.fs := fun hm => by
      obtain ⟨e, he, q⟩ := List.mem_filterMap.mp hm
      exact nfr (List.mem_filterMap.mpr ⟨e, List.mem_cons_of_mem _ he, q⟩)
    have nI : sI.heap.get? a = none := by
      cases e : sI.heap.get? a with
      | none => rfl
      | some o => exact absurd ((nb a o e (by rw [hs]; exact nfr)).symm.trans fl3.2.1) (by intro q; cases q)
    have n0 : X.s_0.heap.get? a = none := by
      cases e : X.s_0.heap.get? a with
      | none => rfl
      | some o =>
        obtain ⟨o', q⟩ := J.base.there a o e (by rw [hex]; exact fun z => nomatch z)
        rw [nI] at q; cases q
    have nP : ∀ p ∈ X.pn ++ pins, p.1 ≠ a := fun p hp z => by
      have q := (J.pin p hp).1
      rw [z, nI] at q; cases q
    have nC : ∀ y c', X.env.cells.lookup y = some c' → c' ≠ a := fun y c' e z => by
      obtain ⟨v, o, ho, _⟩ := J.cell y c' e
      rw [z, nI] at ho; cases ho
    have S3 := J3.suite he3 hd3 na nL nF
    refine wpAny_handleBy_cons (codeAny_handlers_test ?_) (by intro q; cases q)
    have LT : PySem.W.Looks (model X.prog X.w) h3 (typeOf (.ref a)) cls := fun A Q E s k q => wpAny_typeOf_ref (k _ _ he3) (by rw [hz3.1]; exact q)
    have LM := PySem.W.exm_one (M := model X.prog X.w) (J3.kIn) LT hb1
    have test : ∀ {Q : Value → Shared → Prop} {E : Value → Shared → Prop}, Q c { s' with heap := h3 } → wpAny (model X.prog X.w) (X.A.mark (some (.ref a))) (eval (.Name x np) X.env) Q E { s' with heap := h3 } := fun {Q E} q => by
      rcases hc with ⟨hg, hdbg, hm | ⟨hm, hv, hnn⟩⟩
      · exact ld_glob (X := X.suite a ((a, oe3) :: (X.pn ++ pins))) S3 hg hm q hdbg
      · exact ld_blt (X := X.suite a ((a, oe3) :: (X.pn ++ pins))) S3 hg hm hv q hnn hdbg
    refine test (LM.here ?_)
    cases b with
    | true =>
      refine codeAny_handlers_suite_as (HandSPX.lands_againZ fl3 fun h4 fl4 up4 => ?_)
      have J4 : Inv X pins σ' H' { s' with heap := h4 } := J.landed nb fl4.1 ((up.trans up3).trans up4) os ag
      obtain ⟨oe4, vs4, he4, hz4, hd4⟩ := fl4.there
      refine store_ok (X := X.suite a ((a, oe4) :: (X.pn ++ pins))) (v := .ref a) (J4.suite he4 hd4 na nL nF) hN hi hloc rfl (fun s5 S5 => ?_) (.inr hln)
      refine wpAny_mono ((hsu a oe4 cls d (X.pn ++ pins) hz4 ⟨_, hd4⟩).run [] s5 _ H' _ S5 (hyes rfl a na)) (fun f s6 hsp => ?_) (fun _ _ z => False.elim z)
      have fin : ∀ {σ6 : L2.St} {H6 : Hp} {Q : Shared → Prop}, Inv (X.suite a ((a, oe4) :: (X.pn ++ pins))) [] σ6 H6 s6 → (H6 a = none → ∀ s7, Inv X pins (σ6.set i none) (upd H6 a (XO cls d a)) s7 → Q s7) →
          wpAny (model X.prog X.w) X.A (bindName X.env n .none >>= fun _ => unbindBehindTheSuite X.env n pos') (fun _ s7 => Q s7) X.xe s6 := fun {σ6 H6 Q} S6 hq => by
        obtain ⟨g1, g2, _⟩ := S6.pin (a, oe4) (List.mem_append_left _ List.mem_cons_self)
        exact gone_ok (track (S6.unsuite ok) g2 n0 nL nP nC (xo_ok g1 hz4 hd4)) hN hi hln (hq g2)
      cases f with
      | next => obtain ⟨σ6, H6, S6, q6⟩ := hsp; exact fin S6 fun g s7 J7 => ⟨_, _, J7, q6 g⟩
      | brk => obtain ⟨σ6, H6, S6, q6⟩ := hsp; exact fin S6 fun g s7 J7 => ⟨_, _, J7, q6 g⟩
      | cont => obtain ⟨σ6, H6, S6, q6⟩ := hsp; exact fin S6 fun g s7 J7 => ⟨_, _, J7, q6 g⟩
      | ret u => obtain ⟨v6, σ6, H6, S6, r6, q6⟩ := hsp; exact fin S6 fun g s7 J7 => ⟨_, _, _, J7, r6, q6 g⟩
    | false =>
      show wpAny _ X.A (handleBy (.ref a) X.env []) _ _ _
      refine wpAny_handleBy_nil ?_
      obtain ⟨k1, k2, k3, oe, vs, T, oT, ts', he, hz, hd, h1, hr⟩ := id fl3
      unfold PySem.passOn
      refine wpAny_bind (wpAny_field he hd h1 ?_)
      rw [if_neg (show ¬ ((Value.ref T == Value.none) = true) from by simp)]
      have fin : wpAny (model X.prog X.w) X.A (setFlight (.ref a) X.env.frame) (fun _ s4 => wpAny (model X.prog X.w) X.A (throw (.ref a) : Sem Flow) (SP X pins D) X.xe s4) X.xe { s' with heap := h3 } := by
        rw [hf]
        refine HandSPX.setFlight_upZ fl3 fun h4 hh4 up4 => wpAny_throw (tk _ _ ?_)
        exact ⟨a, B, sI, pins, σ', H', cls, d, rfl, J, nb, (up.trans up3).trans up4, .inr (.inr (by rw [hs]; exact hh4)), na, os, ag, hno rfl⟩
      first
        | exact wpAny_bind (wpAny_pure (wpAny_bind fin))
        | exact wpAny_bind fin
  · cases f with
    | next => obtain ⟨σ', H', J', q⟩ := hsp; exact wpAny_execs_nil ⟨σ', H', J'.ofTry ok, q⟩
    | brk => obtain ⟨σ', H', J', q⟩ := hsp; exact ⟨σ', H', J'.ofTry ok, q⟩
    | cont => obtain ⟨σ', H', J', q⟩ := hsp; exact ⟨σ', H', J'.ofTry ok, q⟩
    | ret u => obtain ⟨v, σ', H', J', r, q⟩ := hsp; exact ⟨v, σ', H', J'.ofTry ok, r, q⟩
end
/-! ### isinstance of such -/
def rIsX (K : PySem.W.Frag) : List V → Hp → VK → Prop := fun xs H Q => ∃ (a D : Addr) (c : V) (cv : Value) (b : Bool), xs = [.ref a, c] ∧ H a = some (XO (.ref D) none a) ∧ ExcC K D ∧ ClsV c cv ∧ PySem.W.kitOne K (.ref D) cv = some b ∧ Q (.bl b) H
theorem call_isX {X : Cx} : CallR X (.builtin "isinstance") (rIsX X.K) := by
  intro pins s σ H xs us Q I r h
  obtain ⟨a, D, c, cv, b, rfl, ha, C, hcv, e, q⟩ := h
  obtain ⟨u1, u2, rfl, r1, r2⟩ := vals2 r
  cases (show u1 = Value.ref a from r1)
  have ec := hcv.eq r2
  subst ec
  obtain ⟨⟨oe, vs, hget, hz, hv⟩, _⟩ := (show ObjOk X.prog X.w H s.heap a (XO (.ref D) none a) from I.hok a _ ha)
  have J : PySem.W.InstAt s.heap a oe D none := by
    obtain ⟨oc, od, oda, osl⟩ := oe
    obtain ⟨h1, h2⟩ := hz
    dsimp only at h1 h2 hv
    subst h1 h2 hv
    exact ⟨hget, rfl, rfl, trivial⟩
  exact PySem.W.kia_one (PySem.W.handS_kitx_exc C.hg C.hk C.hs C.hd C.ha C.hn C.ht C.hm) I.kIn J e (fun z => nomatch z) fun tk => ⟨.bl b, H, I.kept (t' := tk) fun _ _ z => z, rfl, q⟩

/-! ### rules in the form that the walks use -/
section
variable {P : Program} {w : World} {K : PySem.W.Frag} {mg : Str → Option Value} {base : Heap} {N : List Str} {qual : Str} {scope : Scope} {f : Addr} {cd : Value} {A : Around} {outer : List Env} {s : Shared} {H : Hp} {E : XK}
theorem tkOf : Takes (cxOf (L2.CX P w) P w K mg base N qual scope f cd A outer s H E) (fun cls d _ H => E cls d H) := takes_of rfl rfl rfl rfl
theorem passOf : PassesOwn (model P w) (cxOf (L2.CX P w) P w K mg base N qual scope f cd A outer s H E).A (cxOf (L2.CX P w) P w K mg base N qual scope f cd A outer s H E).env (cxOf (L2.CX P w) P w K mg base N qual scope f cd A outer s H E).xe := passes_of rfl
end
section
variable {X : Cx} {a b e o value : Expr} {ta tb te tv : TE} {tA : TT} {pos pos' : Pos} {x f : Str} {C : Addr}
theorem pe_gcon {v : V} (h : ∃ u, X.mg x = some u ∧ RelV v u) (hg : Gl X x := by rfl) (hd : (x == ("__debug__" : Str)) = false := by decide) : PE X (.Name x pos) (tC v) := by
  obtain ⟨u, hm, r⟩ := h
  exact pe_glob hg hm r hd
theorem pe_gref {a : Addr} (h : X.mg x = some (.ref a)) (hg : Gl X x := by rfl) (hd : (x == ("__debug__" : Str)) = false := by decide) : PE X (.Name x pos) (tC (.ref a)) := pe_glob hg h rfl hd
/-- o.f, o an instance of the class at C -/
def tGet (C : Addr) (ta : TE) (f : Str) : TE := fun σ H Q => ta σ H fun x H1 => ∃ a dx fs v, x = .ref a ∧ H1 a = some (.ins C dx fs) ∧ fs.lookup f = some v ∧ Q v H1
theorem pe_get (c : Cls X.K C) (n : NoAttr X.K C f) (he : PE X e ta) (hb : attributeBase e f X.env (eval e X.env) = eval e X.env := by rfl) : PE X (.Attribute e f pos) (tGet C ta f) := by
  refine ⟨fun pins s σ H Q I h => attr_of hb (thn (he.run pins s σ H _ I h) ?_)⟩
  rintro u s1 ⟨x, H1, I1, rx, a, dx, fs, v, rfl, ea, l, q⟩
  obtain rfl : u = Value.ref a := rx
  exact getattr_ok I1 ea c n l fun u' s2 I2 ru => ⟨v, H1, I2, ru, q⟩
/-- o.f = v -/
def tPut (C : Addr) (ta tv : TE) (f : Str) : TS := fun D σ H => tv σ H fun y H1 => ta σ H1 fun x H2 => ∃ a dx fs, x = .ref a ∧ H2 a = some (.ins C dx fs) ∧ fs.length < 1000 ∧ D.nx σ (upd H2 a (.ins C dx (putF f y fs)))
theorem ps_put (c : Cls X.K C) (n : NoAttr X.K C f) (ha : PE X o ta) (hv : PE X value tv) (hs : swapsWith value (some (.Attribute o f pos')) pos.line X.env = pure false := by rfl) : PS X (.Assign [.Attribute o f pos'] value pos) (tPut C ta tv f) := by
  refine ⟨fun pins s σ H D I h => plainObj_wpAny_Assign_Attribute (thn (hv.run pins s σ H _ I h) ?_) hs⟩
  rintro u s1 ⟨y, H1, I1, ry, q⟩
  refine thn (ha.run pins s1 σ H1 _ I1 q) ?_
  rintro ov s2 ⟨x, H2, I2, rx, a, dx, fs, rfl, ea, l, q2⟩
  obtain rfl : ov = Value.ref a := rx
  exact setattr_ok I2 ea c n l ry fun s3 I3 => ⟨σ, _, I3, q2⟩
/-- a value's truth as a test -/
def tTr (K : PySem.W.Frag) (ta : TE) : TT := fun σ H Q => ta σ H fun x H1 => ∃ k, TruV K x H1 k ∧ Q k H1
theorem pt_tr (ha : PE X a ta) (he : ∀ whole, isTrue a X.env whole = (do let v ← whole; standAt a.pos; holding [v] (truthy v)) := by intro _; rfl) : PT X a (tTr X.K ta) := pt_truth ha he
def rLn (K : PySem.W.Frag) : List V → Hp → VK → Prop := fun xs H Q => ∃ x n, xs = [x] ∧ LenV K x H n ∧ Q (.int n) H
theorem call_ln : CallR X (.builtin "len") (rLn X.K) := call_len
def rOrd : List V → Hp → VK → Prop := fun xs H Q => ∃ x, xs = [.str x] ∧ x.length = 1 ∧ Q (.int (x.cps.getD 0 0 : Nat)) H
theorem call_or : CallR X (.builtin "ord") rOrd := call_ord
def rMin2 : List V → Hp → VK → Prop := fun xs H Q => ∃ i j, xs = [.int i, .int j] ∧ Q (.int (if j < i then j else i)) H
def rMax2 : List V → Hp → VK → Prop := fun xs H Q => ∃ i j, xs = [.int i, .int j] ∧ Q (.int (if j > i then j else i)) H
theorem call_mn (hc : X.calm = true) : CallR X (.builtin "min") rMin2 := call_min2 hc
theorem call_mx (hc : X.calm = true) : CallR X (.builtin "max") rMax2 := call_max2 hc
def rLstOf (K : PySem.W.Frag) : List V → Hp → VK → Prop := fun xs H Q => ∃ p ys, xs = [.ref p] ∧ (SqL K H p ys ∨ SqT K H p ys) ∧ ∀ l, H l = none → Q (.ref l) (upd H l (.lst ys))
theorem call_lo : CallR X (.type "list") (rLstOf X.K) := call_list_of
def rStrI : List V → Hp → VK → Prop := fun xs H Q => ∃ i, xs = [.int i] ∧ i.natAbs.log2 < 1920 ∧ Q (.str (toString i)) H
theorem call_si : CallR X (.type "str") rStrI := call_str_int
def rAddS : R2 := fun x y H Q => ∃ i j, x = .str i ∧ y = .str j ∧ i.length + j.length ≤ sizeLine ∧ Q (.str (i ++ j)) H
theorem op_addS : OpR X (binaryOp .Add) rAddS := op_add_str
def rInStr : R2 := fun x y H Q => ∃ i j, x = .str i ∧ y = .str j ∧ Q (.bl (!(Builtin.Str.occurrences j i 0 j.length 1).isEmpty)) H
theorem op_inStr : OpR X (compareOp .In) rInStr := op_in_str
def rIsNon : R2 := fun x y H Q => y = .non ∧ Q (.bl (decide (x = .non))) H
def rNotNon : R2 := fun x y H Q => y = .non ∧ Q (.bl (!decide (x = .non))) H
theorem op_isNon : OpR X (compareOp .Is) rIsNon := op_isN
theorem op_notNon : OpR X (compareOp .IsNot) rNotNon := op_notN
def rMulS : R2 := fun x y H Q => ∃ z n, x = .str z ∧ y = .int n ∧ MulOk z n ∧ Q (.str (Txt.mul z n)) H
theorem op_mulS : OpR X (binaryOp .Mult) rMulS := by
  rintro pins s σ H x y v u Q I rx ry ⟨z, n, rfl, rfl, ok, q⟩
  obtain ⟨t, rfl⟩ := rx
  obtain ⟨t2, rfl⟩ := ry
  exact SB.mul ok fun t' k => ⟨.str (Txt.mul z n), H, I.tok k, ⟨t', rfl⟩, q⟩
def rCount (K : PySem.W.Frag) : V → List V → Hp → VK → Prop := fun x xs H Q => ∃ (a : Addr) (ys : List V) (y : V), x = V.ref a ∧ xs = [y] ∧ SqL K H a ys ∧ flatV y = true ∧ ys.all flatV = true ∧ Q (.int (ys.countP fun z => eqV z y : Nat)) H
theorem countP_eqU {y : V} : ∀ {ys : List V} {us : List Value}, Vals ys us → ys.all flatV = true → us.countP (eqU y) = ys.countP fun z => eqV z y
  | _, _, .nil, _ => rfl
  | z :: _, u :: _, .cons r t, f => by
    rw [List.all_cons, Bool.and_eq_true] at f
    rw [List.countP_cons, List.countP_cons, countP_eqU t f.2, eqU_of r f.1]
theorem mt_countF : MtR X "list.count" (rCount X.K) := by
  rintro pins s σ H x xs v us Q I rx rxs ⟨a, ys, y, rfl, rfl, hs, fy, fys, q⟩
  cases rx
  obtain ⟨uy, rfl, ry⟩ := vals1 rxs
  obtain ⟨its, rv, ⟨⟨cls, dd, data, sl⟩, n, ho, hc, hdn, hd⟩, hlen⟩ := I.list hs
  simp only at hc hd
  subst hc hd
  refine call_meets PySem.F.slot_list_count ⟨_, ho, rfl⟩ PySem.F.entry_list_count (PySem.F.args_list_count_2 _ _) (SeqAt.list_countAt a its.toArray n dd sl uy (eqU y)) ⟨ho, fun u' hu' => mem_eqAt ry fy rv fys u' (by simpa using hu'), ?_⟩
  have ec : its.toArray.toList.countP (eqU y) = ys.countP fun z => eqV z y := countP_eqU rv fys
  rw [ec]
  exact ⟨.int (ys.countP fun z => eqV z y : Nat), H, I.tok _, ⟨_, rfl⟩, q⟩
abbrev Xc (K : PySem.W.Frag) (C : Addr) : Prop := PySem.W.excIn K C He.veBase "ValueError.__new__" = true ∧ PySem.W.keepIn K (.ref C) = true ∧ PySem.W.subIn K (.ref C) (.type "BaseException") = some true ∧ PySem.W.typeIn K (.ref C) = some (.type "type")
def tRaiseT (W : WX) (cls : Value) : TS := fun _ σ H => W cls none σ H
theorem ps_rs {W : WX} {x m : Str} {j : Nat} {p p2 pos pos2 : Pos} (hc : X.calm = true) (tk : Takes X W) (q : Xc X.K C)
    (gC : X.mg x = some (.ref C)) (hg : Gl X x := by rfl) (hdb : (x == ("__debug__" : Str)) = false := by decide) : PS X (.Raise (some (.Call (.Name x p) [.Constant (.str m) j p2] [] pos)) none pos2) (tRaiseT W (.ref C)) :=
  ps_raise hc tk (pmk_own PySem.F.excBase_ValueError q.1 gC q.2.1 (raises_own q.2.2.1 q.2.2.2) hg hdb)
def tTry (K : PySem.W.Frag) (c : Value) (i : Nat) (ts : Addr → Value → Option Addr → TS) (Wout : WX) (tb : WX → TS) : TS := fun D σ H => tb (wTrk K c i ts Wout D) D σ H
theorem ps_tryT {i : Nat} {n x : Str} {c : Value} {body suite : List Stmt} {b0 : Stmt} {np pos pos' : Pos} {tb : WX → TS} {ts : Addr → Value → Option Addr → TS} {Wout : WX} (hs : X.stack = X.env :: X.outer) (hf : X.env.frame = some X.env.locals) (hex : X.ex = []) (hN : X.N.Nodup) (hi : X.N[i]? = some n) (hln : X.env.kindOf n = some .local) (hc : Names X x c) (tk : Takes X Wout)
    (hb : ∀ (W : WX) (pn : List (Addr × Obj)) (xe : Value → Shared → Prop), Takes (X.tr pn xe) W → PassesOwn (model X.prog X.w) X.A X.env xe → PSs (X.tr pn xe) body (tb W))
    (hsu : ∀ (a : Addr) (oe : Obj) (cls : Value) (d : Option Addr) (pn : List (Addr × Obj)), Zc cls d oe → (∃ vs, oe.data = .fields vs) → PSs (X.suite a ((a, oe) :: pn)) (b0 :: suite) (ts a cls d)) :
    PS X (.Try body [.ExceptHandler (some (.Name x np)) (some n) (b0 :: suite) pos'] [] [] pos) (tTry X.K c i ts Wout tb) := ps_try_trk hs hf hex hN hi hln hc tk hb hsu
end
/-! ### texts as lists of codes -/
def tl (x : Str) : List Nat := x.cps.toList
def S (l : List Nat) : Str := ⟨l.toArray⟩
@[simp] theorem tl_S (l : List Nat) : tl (S l) = l := rfl
@[simp] theorem S_tl (x : Str) : S (tl x) = x := rfl
theorem str_ext {x y : Str} (h : tl x = tl y) : x = y := by rw [← S_tl x, ← S_tl y, h]
theorem str_eq_iff {x y : Str} : x = y ↔ tl x = tl y := ⟨fun h => by rw [h], str_ext⟩
theorem len_tl (x : Str) : x.length = (tl x).length := by show x.cps.size = x.cps.toList.length; simp
@[simp] theorem len_S (l : List Nat) : (S l).length = l.length := by rw [len_tl, tl_S]
@[simp] theorem tl_app (x y : Str) : tl (x ++ y) = tl x ++ tl y := by show (x.cps ++ y.cps).toList = _; rw [Array.toList_append]; rfl
@[simp] theorem len_app (x y : Str) : (x ++ y).length = x.length + y.length := by rw [len_tl, tl_app, List.length_append, ← len_tl, ← len_tl]
/-! ### one step of a reading -/
section
variable {σ : L2.St} {H : Hp} {Q : VK} {QB : Bool → Hp → Prop} {QA : List V → Hp → Prop} {QO : Option Int → Hp → Prop} {D : Ends} {i : Nat} {v x y z : V} {ta tb tc te tv to : TE} {tt tu : TT} {t1 t2 ts : TS} {tas : TA} {b : Bool} {K : PySem.W.Frag} {a C dx : Addr} {fs : List (Str × V)} {f : Str} {r r' : R2} {n m : Int} {p : Addr} {xs ys : List V} {s1 s2 : Str}
theorem z_var (h : σ[i]? = some (some v)) (q : Q v H) : tVar i σ H Q := ⟨v, h, q⟩
theorem z_c (q : Q v H) : tC v σ H Q := q
theorem z_op (q : ta σ H fun x H1 => tb σ H1 fun y H2 => r x y H2 Q) : tOp r ta tb σ H Q := q
theorem z_un {r : V → Hp → VK → Prop} (q : ta σ H fun x H1 => r x H1 Q) : tUn r ta σ H Q := q
theorem z_rU {g : Int → V} (q : Q (g n) H) : rU g (.int n) H Q := ⟨n, rfl, q⟩
theorem z_i0 {g : Int → Int → V} (q : Q (g n m) H) : rI0 g (.int n) (.int m) H Q := ⟨n, m, rfl, rfl, q⟩
theorem z_i {Cc : Int → Int → Prop} {g : Int → Int → V} (h : Cc n m) (q : Q (g n m) H) : rI Cc g (.int n) (.int m) H Q := ⟨n, m, rfl, rfl, h, q⟩
theorem z_eq (h : scal x y = true) (q : Q (.bl (decide (x = y))) H) : rEq x y H Q := ⟨h, q⟩
theorem z_ne (h : scal x y = true) (q : Q (.bl (!decide (x = y))) H) : rNe x y H Q := ⟨h, q⟩
theorem z_isN (q : Q (.bl (decide (x = .non))) H) : rIsNon x .non H Q := ⟨rfl, q⟩
theorem z_notN (q : Q (.bl (!decide (x = .non))) H) : rNotNon x .non H Q := ⟨rfl, q⟩
theorem z_addS (h : s1.length + s2.length ≤ sizeLine) (q : Q (.str (s1 ++ s2)) H) : rAddS (.str s1) (.str s2) H Q := ⟨s1, s2, rfl, rfl, h, q⟩
theorem z_mulS (h : MulOk s1 n) (q : Q (.str (Txt.mul s1 n)) H) : rMulS (.str s1) (.int n) H Q := ⟨s1, n, rfl, rfl, h, q⟩
theorem z_cat {l b : Addr} (h1 : H l = some (.lst xs)) (h2 : H b = some (.lst ys)) (h3 : xs.length + ys.length ≤ sizeLine) (q : ∀ p, H p = none → Q (.ref p) (upd H p (.lst (xs ++ ys)))) : rCat (.ref l) (.ref b) H Q := ⟨l, b, xs, ys, rfl, rfl, h1, h2, h3, q⟩
theorem z_get (q : ta σ H fun x H1 => ∃ a dx fs v, x = .ref a ∧ H1 a = some (.ins C dx fs) ∧ fs.lookup f = some v ∧ Q v H1) : tGet C ta f σ H Q := q
theorem z_get1 {c : V → Prop} (h : H a = some (.ins C dx fs)) (l : fs.lookup f = some v) (q : c v) : ∃ a' dx' fs' v', V.ref a = .ref a' ∧ H a' = some (.ins C dx' fs') ∧ fs'.lookup f = some v' ∧ c v' := ⟨a, dx, fs, v, rfl, h, l, q⟩
theorem z_put (q : tv σ H fun y H1 => ta σ H1 fun x H2 => ∃ a dx fs, x = .ref a ∧ H2 a = some (.ins C dx fs) ∧ fs.length < 1000 ∧ D.nx σ (upd H2 a (.ins C dx (putF f y fs)))) : tPut C ta tv f D σ H := q
theorem z_put1 {c : Addr → Addr → List (Str × V) → Prop} (h : H a = some (.ins C dx fs)) (l : fs.length < 1000) (q : c a dx fs) : ∃ a' dx' fs', V.ref a = .ref a' ∧ H a' = some (.ins C dx' fs') ∧ fs'.length < 1000 ∧ c a' dx' fs' := ⟨a, dx, fs, rfl, h, l, q⟩
theorem z_andV (q : ta σ H fun x H1 => ∃ c, x = .bl c ∧ if c = true then tb σ H1 Q else Q (.bl false) H1) : tAndV ta tb σ H Q := q
theorem z_orV (q : ta σ H fun x H1 => ∃ c, x = .bl c ∧ if c = true then Q (.bl true) H1 else tb σ H1 Q) : tOrV ta tb σ H Q := q
theorem z_bl {c : Bool → Prop} (q : c b) : ∃ c', V.bl b = .bl c' ∧ c c' := ⟨b, rfl, q⟩
theorem z_int {c : Int → Prop} (q : c n) : ∃ c', V.int n = .int c' ∧ c c' := ⟨n, rfl, q⟩
theorem z_chain (q : ta σ H fun x H1 => tb σ H1 fun y H2 => r x y H2 fun z H3 => ∃ k, z = .bl k ∧ (if k = true then tc σ H3 fun w' H4 => r' y w' H4 Q else Q (.bl false) H3)) : tChain r r' ta tb tc σ H Q := q
theorem z_test (q : ta σ H fun x H1 => ∃ k, x = .bl k ∧ QB k H1) : tTest ta σ H QB := q
theorem z_tB (q : ta σ H fun x H1 => ∃ k, x = .bl k ∧ QB k H1) : tB ta σ H QB := q
theorem z_and (q : tt σ H fun c H1 => if c = true then tu σ H1 QB else QB false H1) : tAnd tt tu σ H QB := q
theorem z_or (q : tt σ H fun c H1 => if c = true then QB true H1 else tu σ H1 QB) : tOr tt tu σ H QB := q
theorem z_not (q : tt σ H fun c H1 => QB (!c) H1) : tNot tt σ H QB := q
theorem z_tr (q : ta σ H fun x H1 => ∃ k, TruV K x H1 k ∧ QB k H1) : tTr K ta σ H QB := q
theorem z_truL {c : Bool → Prop} (h : SqL K H p xs) (q : c (!xs.isEmpty)) : ∃ k, TruV K (.ref p) H k ∧ c k := ⟨_, .inl ⟨xs, h, rfl⟩, q⟩
theorem z_if (q : tt σ H fun c H1 => if c = true then ta σ H1 Q else tb σ H1 Q) : tIf tt ta tb σ H Q := q
theorem z_nil (q : QA [] H) : tNil σ H QA := q
theorem z_cons (q : ta σ H fun x H1 => tas σ H1 fun xs H2 => QA (x :: xs) H2) : tCons ta tas σ H QA := q
theorem z_tup (q : tas σ H fun xs H1 => xs.length ≤ sizeLine ∧ ∀ p, H1 p = none → Q (.ref p) (upd H1 p (.tup xs))) : tTup tas σ H Q := q
theorem z_lst (q : tas σ H fun xs H1 => xs.length ≤ sizeLine ∧ ∀ p, H1 p = none → Q (.ref p) (upd H1 p (.lst xs))) : tLst tas σ H Q := q
theorem z_cb {rr : List V → Hp → VK → Prop} (q : tas σ H fun vs H1 => rr vs H1 Q) : tCB rr tas σ H Q := q
theorem z_lenS (h : s1.length ≤ sizeLine) (q : Q (.int s1.length) H) : rLn K [.str s1] H Q := ⟨.str s1, _, rfl, ⟨h, rfl⟩, q⟩
theorem z_lenL (h : SqL K H p xs) (q : Q (.int xs.length) H) : rLn K [.ref p] H Q := ⟨.ref p, _, rfl, .inl ⟨xs, h, rfl⟩, q⟩
theorem z_lenT (h : SqT K H p xs) (q : Q (.int xs.length) H) : rLn K [.ref p] H Q := ⟨.ref p, _, rfl, .inr ⟨xs, h, rfl⟩, q⟩
theorem z_ord (h : s1.length = 1) (q : Q (.int (s1.cps.getD 0 0 : Nat)) H) : rOrd [.str s1] H Q := ⟨s1, rfl, h, q⟩
theorem z_min (q : Q (.int (if m < n then m else n)) H) : rMin2 [.int n, .int m] H Q := ⟨n, m, rfl, q⟩
theorem z_max (q : Q (.int (if m > n then m else n)) H) : rMax2 [.int n, .int m] H Q := ⟨n, m, rfl, q⟩
theorem z_lo (h : SqL K H p xs) (q : ∀ l, H l = none → Q (.ref l) (upd H l (.lst xs))) : rLstOf K [.ref p] H Q := ⟨p, xs, rfl, .inl h, q⟩
theorem z_si (h : n.natAbs.log2 < 1920) (q : Q (.str (toString n)) H) : rStrI [.int n] H Q := ⟨n, rfl, h, q⟩
theorem z_call {sp : Sp} {E : L2.St → XK} (q : tas σ H fun vs H1 => sp vs H1 Q (E σ)) : tCallS sp E tas σ H Q := q
theorem z_mt {sp : Sp} {E : L2.St → XK} (q : ta σ H fun x H1 => ∃ a dx fs, x = .ref a ∧ H1 a = some (.ins C dx fs) ∧ fs.lookup f = none ∧ tas σ H1 fun vs H2 => sp (x :: vs) H2 Q (E σ)) : tMt C f sp E ta tas σ H Q := q
theorem z_mt1 {c : Prop} (h : H a = some (.ins C dx fs)) (l : fs.lookup f = none) (q : c) : ∃ a' dx' fs', V.ref a = .ref a' ∧ H a' = some (.ins C dx' fs') ∧ fs'.lookup f = none ∧ c := ⟨a, dx, fs, rfl, h, l, q⟩
theorem z_mk {sp : Sp} {E : L2.St → XK} (q : tas σ H fun vs H1 => ∀ x dx, H1 x = none → H1 dx = none → dx ≠ x → sp (.ref x :: vs) (upd (upd H1 dx (.own x)) x (.ins C dx [])) (fun v H2 => v = .non ∧ Q (.ref x) H2) (E σ)) : tMk C sp E tas σ H Q := q
theorem z_sl {rs : V → Option Int → Option Int → Hp → VK → Prop} {tl th : TO} (q : te σ H fun x H1 => tl σ H1 fun l H2 => th σ H2 fun u H3 => rs x l u H3 Q) : tSl rs te tl th σ H Q := q
theorem z_nop (q : QO none H) : tNoPart σ H QO := q
theorem z_part (q : te σ H fun x H1 => ∃ i, x = .int i ∧ QO (some i) H1) : tPart te σ H QO := q
theorem z_slL {lo hi : Option Int} (h : SqL K H p xs) (q : ∀ l, H l = none → Q (.ref l) (upd H l (.lst (cutV xs lo hi)))) : rSlL K (.ref p) lo hi H Q := ⟨p, xs, rfl, h, q⟩
theorem z_slS {lo hi : Option Int} (h : s1.length ≤ sizeLine) (q : Q (.str (cutS s1 lo hi)) H) : rSlS (.str s1) lo hi H Q := ⟨s1, rfl, h, q⟩
theorem z_ixL (h : SqL K H p xs) (e : atI xs n = some v) (q : Q v H) : rIxL K (.ref p) (.int n) H Q := ⟨p, xs, n, v, rfl, rfl, h, e, q⟩
theorem z_ixT (h : SqT K H p xs) (e : atI xs n = some v) (q : Q v H) : rIxT K (.ref p) (.int n) H Q := ⟨p, xs, n, v, rfl, rfl, h, e, q⟩
theorem z_ixS {c : Nat} (h : s1.length ≤ sizeLine) (e : atI s1.cps.toList n = some c) (q : Q (.str ⟨#[c]⟩) H) : rIxS (.str s1) (.int n) H Q := ⟨s1, n, c, rfl, rfl, h, e, q⟩
theorem z_bm {T : String} {rm : V → List V → Hp → VK → Prop} (q : to σ H fun x H1 => tyV K T x H1 ∧ tas σ H1 fun xs H2 => rm x xs H2 Q) : tBM K T rm to tas σ H Q := q
theorem z_bm0 {T : String} {rm : V → List V → Hp → VK → Prop} (q : to σ H fun x H1 => tyV K T x H1 ∧ rm x [] H1 Q) : tBM0 K T rm to σ H Q := q
theorem z_tyL {c : Prop} (h : SqL K H p xs) (q : c) : tyV K "list" (.ref p) H ∧ c := ⟨.inl ⟨rfl, xs, h⟩, q⟩
theorem z_tyS {c : Prop} (q : c) : tyV K "str" (.str s1) H ∧ c := ⟨rfl, q⟩
theorem z_app (h : H p = some (.lst xs)) (l : xs.length < sizeLine) (q : Q .non (upd H p (.lst (xs ++ [y])))) : rAppend (.ref p) [y] H Q := ⟨p, xs, y, rfl, rfl, h, l, q⟩
theorem z_pop (h : H p = some (.lst xs)) (e : xs[xs.length - 1]? = some y) (q : Q y (upd H p (.lst xs.dropLast))) : rPop (.ref p) [] H Q := ⟨p, xs, y, rfl, rfl, h, e, q⟩
theorem z_seq (q : t1 { D with nx := t2 D } σ H) : tSeq t1 t2 D σ H := q
theorem z_next (q : D.nx σ H) : tNext D σ H := q
theorem z_drop (q : te σ H fun _ H1 => D.nx σ H1) : tDrop te D σ H := q
theorem z_ret (q : te σ H D.rt) : tRet te D σ H := q
theorem z_retN (q : D.rt .non H) : tRetN D σ H := q
theorem z_ifS {c : TT} (q : c σ H fun b H1 => if b = true then t1 D σ H1 else t2 D σ H1) : tIfS c t1 t2 D σ H := q
theorem z_asg {g : TG} (q : te σ H fun x H1 => g x σ H1 D.nx) : tAsg te g D σ H := q
theorem z_gname {c : L2.St → Hp → Prop} (q : c (σ.set i (some v)) H) : gName i v σ H c := q
theorem z_gsub {tset : TSet} {c : L2.St → Hp → Prop} (q : to σ H fun o H1 => ta σ H1 fun i H2 => tset o i v H2 fun H3 => c σ H3) : gSub to ta tset v σ H c := q
theorem z_setL {c : Hp → Prop} {j : Nat} (h : H p = some (.lst xs)) (e : ixN xs.length n = some j) (q : c (upd H p (.lst (xs.set j v)))) : rSetL (.ref p) (.int n) v H c := ⟨p, xs, n, j, rfl, rfl, h, e, q⟩
theorem z_raise {W : WX} {cls : Value} (q : W cls none σ H) : tRaiseT W cls D σ H := q
theorem z_try {c : Value} {ts : Addr → Value → Option Addr → TS} {Wout : WX} {tbd : WX → TS} (q : tbd (wTrk K c i ts Wout D) D σ H) : tTry K c i ts Wout tbd D σ H := q
theorem z_imp {n : Nat} {c : Prop} (h : n ≤ sizeLine) (q : c) : n ≤ sizeLine ∧ c := ⟨h, q⟩
theorem z_wtrk {c cls : Value} {ts : Addr → Value → Option Addr → TS} {Wout : WX} (h : PySem.W.exmOne K cls c = some true) (q : ∀ a, H a = none → ts a cls none { nx := fun σ' H' => H' a = none → D.nx (σ'.set i none) (upd H' a (XO cls none a)), rt := fun v H' => H' a = none → D.rt v (upd H' a (XO cls none a)), bk := fun σ' H' => H' a = none → D.bk (σ'.set i none) (upd H' a (XO cls none a)), ct := fun σ' H' => H' a = none → D.ct (σ'.set i none) (upd H' a (XO cls none a)) } (σ.set i (some (.ref a))) H) : wTrk K c i ts Wout D cls none σ H := ⟨true, h, fun _ a ha => q a ha, fun z => nomatch z⟩
theorem z_ifT {b : Bool} {A B : Prop} (h : b = true) (q : A) : if b = true then A else B := by rw [h]; exact iteT q
theorem z_ifF {b : Bool} {A B : Prop} (h : b = false) (q : B) : if b = true then A else B := by rw [h]; exact iteF q
theorem ite_b {b : Bool} {A B : Prop} (h1 : b = true → A) (h2 : b = false → B) : if b = true then A else B := by
  cases b with
  | true => exact iteT (h1 rfl)
  | false => exact iteF (h2 rfl)
end
/-! ### heaps -/
theorem un_fresh {H : Hp} {q p : Addr} {o : HO} (h : upd H q o p = none) : p ≠ q ∧ H p = none := by
  by_cases e : p = q
  · subst e; rw [upd_same] at h; cases h
  · rw [upd_ne e] at h; exact ⟨e, h⟩

/-! ### comprehensions -/
section
variable {σ : L2.St} {H H1 : Hp} {Q : VK} {g : TG} {tt : TT} {te ta : TE} {vs : List Nat} {D : Addr} {Qd : Hp → Prop} {K : PySem.W.Frag}
/-- what a comprehension asks behind what it walks: the new list at D -/
def LcGo (J : It) (g : TG) (tt : TT) (te : TE) (vs : List Nat) (σ : L2.St) (D : Addr) (H1 : Hp) (Qd : Hp → Prop) : Prop := ∃ W : Nat → Nat → Hp → Prop, (∃ m, W 0 m (upd H1 D (.lst []))) ∧ ∀ i m H, W i m H →
  (J.stop i H ∧ Qd H) ∨ (J.go i H ∧ ∃ Nx : Hp → Prop, (∀ H', Nx H' → ∃ m', m' < m ∧ W (i + 1) m' H') ∧ ∀ x H', J.yld i H x H' → g x (wipe σ vs) H' fun σ2 H2 => wipe σ2 vs = wipe σ vs ∧ tt σ2 H2 fun b H3 =>
    if b = true then te σ2 H3 fun y H4 => ∃ acc, H4 D = some (.lst acc) ∧ acc.length < sizeLine ∧ Nx (upd H4 D (.lst (acc ++ [y]))) else Nx H3)
theorem z_yes {QB : Bool → Hp → Prop} (q : QB true H) : tYes σ H QB := q
theorem z_lc {wi : TI} (q : wi σ H fun J H1 => ∀ D, H1 D = none → LcGo J g tt te vs σ D H1 fun H2 => Q (.ref D) H2) : tLc wi g tt te vs σ H Q := q
theorem z_iStr {R : It → Hp → Prop} (q : ta σ H fun v H1 => ∃ x, v = .str x ∧ R (Its x) H1) : iStr ta σ H R := q
theorem z_iLst {R : It → Hp → Prop} (q : ta σ H fun v H1 => ∃ a, v = .ref a ∧ (∃ xs, SqL K H1 a xs) ∧ R (Itl K a) H1) : iList K ta σ H R := q
theorem z_iTup {R : It → Hp → Prop} (q : ta σ H fun v H1 => ∃ a, v = .ref a ∧ (∃ xs, SqT K H1 a xs) ∧ R (Itt K a) H1) : iTup K ta σ H R := q
theorem z_str {c : Str → Prop} {x : Str} (q : c x) : ∃ x', V.str x = .str x' ∧ c x' := ⟨x, rfl, q⟩
theorem z_sqL {c : Addr → Prop} {a : Addr} {xs : List V} (h : SqL K H a xs) (q : c a) : ∃ a', V.ref a = .ref a' ∧ (∃ xs, SqL K H a' xs) ∧ c a' := ⟨a, rfl, ⟨xs, h⟩, q⟩
theorem z_sqT {c : Addr → Prop} {a : Addr} {xs : List V} (h : SqT K H a xs) (q : c a) : ∃ a', V.ref a = .ref a' ∧ (∃ xs, SqT K H a' xs) ∧ c a' := ⟨a, rfl, ⟨xs, h⟩, q⟩
theorem lc_str {x : Str} (Pv : Nat → Hp → Prop) (h0 : Pv 0 (upd H1 D (.lst []))) (hs : ∀ i c H, x.cps[i]? = some c → Pv i H → g (.str ⟨#[c]⟩) (wipe σ vs) H fun σ2 H2 => wipe σ2 vs = wipe σ vs ∧ tt σ2 H2 fun b H3 =>
    if b = true then te σ2 H3 fun y H4 => ∃ acc, H4 D = some (.lst acc) ∧ acc.length < sizeLine ∧ Pv (i + 1) (upd H4 D (.lst (acc ++ [y]))) else Pv (i + 1) H3) (hd : ∀ H, Pv x.cps.size H → Qd H) : LcGo (Its x) g tt te vs σ D H1 Qd := by
  refine ⟨fun i m H => Pv i H ∧ i + m = x.cps.size, ⟨_, h0, Nat.zero_add _⟩, fun i m H ⟨p, e⟩ => ?_⟩
  by_cases hi : i < x.cps.size
  · refine .inr ⟨hi, Pv (i + 1), fun H' p' => ⟨m - 1, by omega, p', by omega⟩, ?_⟩
    rintro v H' ⟨rfl, c, hc, rfl⟩
    exact hs i c _ hc p
  · have ei : i = x.cps.size := by omega
    subst ei
    exact .inl ⟨Nat.le_refl _, hd H p⟩
/-- a comprehension over a text, each item a value that leaves the heap as it is -/
theorem lc_strP {x : Str} {j : Nat} (f : Nat → V) (hl : x.length < sizeLine) (hw : ∀ v, wipe ((wipe σ vs).set j (some v)) vs = wipe σ vs) (hn : H1 D = none)
    (he : ∀ (c : Nat) (H2 : Hp) (Q2 : VK), Same H1 H2 → Q2 (f c) H2 → te ((wipe σ vs).set j (some (.str ⟨#[c]⟩))) H2 Q2) (hd : Qd (upd H1 D (.lst ((tl x).map f)))) : LcGo (Its x) (gName j) tYes te vs σ D H1 Qd := by
  refine lc_str (fun i H2 => H2 = upd H1 D (.lst (((tl x).take i).map f))) (by simp) ?_ ?_
  · rintro i c H2 hc rfl
    refine ⟨hw _, z_yes (iteT ?_)⟩
    have hc' : (tl x)[i]? = some c := by unfold tl; rw [Array.getElem?_toList]; exact hc
    refine he c _ _ (fun b o e => by rw [upd_ne (ne_of_none e hn)]; exact e) ⟨_, upd_same, ?_, ?_⟩
    · rw [len_tl] at hl; simp; omega
    · rw [upd_upd, List.take_succ, hc']; simp
  · rintro H2 rfl
    rw [List.take_of_length_le (by unfold tl; simp)]
    exact hd
end
/-! ### all(..) of a list of truths -/
theorem z_all {H : Hp} {Q : VK} {K : PySem.W.Frag} {a : Addr} (bs : List Bool) (h : SqL K H a (bs.map V.bl)) (q : Q (.bl (bs.all id)) H) : rAll K [.ref a] H Q := ⟨a, bs, rfl, h, q⟩

/-! ### slices -/
def cutL {α : Type} (xs : List α) (lo hi : Option Int) : List α := (xs.drop (HT.sIx xs.length 0 lo)).take (HT.sIx xs.length xs.length hi - HT.sIx xs.length 0 lo)
theorem cutV_eq (xs : List V) (lo hi : Option Int) : cutV xs lo hi = cutL xs lo hi := rfl
theorem cutL_map {α β : Type} (f : α → β) (xs : List α) (lo hi : Option Int) : cutL (xs.map f) lo hi = (cutL xs lo hi).map f := by
  unfold cutL; rw [List.length_map, List.map_take, List.map_drop]
theorem cutS_eq (z : Str) (lo hi : Option Int) : cutS z lo hi = S (cutL (tl z) lo hi) := by
  unfold cutS cutL S tl; rw [len_tl]; rfl
theorem sIx_pos {n d : Nat} {k : Int} (h : 0 ≤ k) : HT.sIx n d (some k) = min k.toNat n := if_neg (by omega)
theorem sIx_neg {n d : Nat} {k : Int} (h : k < 0) : HT.sIx n d (some k) = (k + (n : Int)).toNat := if_pos h
section
variable {α : Type} (xs : List α)
theorem cutL_to {k : Int} (h : 0 ≤ k) : cutL xs none (some k) = xs.take k.toNat := by
  unfold cutL; rw [sIx_pos h, HT.sIx_none, List.drop_zero, Nat.sub_zero]
  by_cases e : k.toNat ≤ xs.length
  · rw [Nat.min_eq_left e]
  · rw [Nat.min_eq_right (by omega), List.take_length, List.take_of_length_le (by omega)]
theorem cutL_from {k : Int} (h : 0 ≤ k) : cutL xs (some k) none = xs.drop k.toNat := by
  unfold cutL; rw [sIx_pos h, HT.sIx_none]
  by_cases e : k.toNat ≤ xs.length
  · rw [Nat.min_eq_left e, List.take_of_length_le (by rw [List.length_drop]; omega)]
  · rw [Nat.min_eq_right (by omega), List.drop_length, List.drop_of_length_le (by omega)]; simp
theorem cutL_mid {a b : Int} (ha : 0 ≤ a) (hb : 0 ≤ b) : cutL xs (some a) (some b) = (xs.drop a.toNat).take (b.toNat - a.toNat) := by
  unfold cutL; rw [sIx_pos ha, sIx_pos hb]
  by_cases e : a.toNat ≤ xs.length
  · rw [Nat.min_eq_left e]
    by_cases e2 : b.toNat ≤ xs.length
    · rw [Nat.min_eq_left e2]
    · rw [Nat.min_eq_right (by omega), List.take_of_length_le (by rw [List.length_drop]; omega), List.take_of_length_le (by rw [List.length_drop]; omega)]
  · have e1 : min a.toNat xs.length = xs.length := by omega
    rw [e1, List.drop_length, List.drop_of_length_le (by omega)]; simp
theorem cutL_lastOff : cutL xs none (some (-1)) = xs.dropLast := by
  unfold cutL; rw [sIx_neg (by decide), HT.sIx_none, List.drop_zero, Nat.sub_zero, List.dropLast_eq_take]
  congr 1; omega
theorem cutL_lastN {k : Int} (h : 0 < k) : cutL xs (some (-k)) none = xs.drop (xs.length - k.toNat) := by
  unfold cutL; rw [sIx_neg (by omega), HT.sIx_none, List.take_of_length_le (by rw [List.length_drop]; omega)]
  congr 1; omega
end
/-! ### what stays -/
/-- all that was tracked is as it was, but at the addresses S -/
def Fr (S : List Addr) (H H' : Hp) : Prop := ∀ b o, H b = some o → b ∉ S → H' b = some o
theorem Fr.refl {S : List Addr} {H : Hp} : Fr S H H := fun _ _ e _ => e
theorem Fr.same {S : List Addr} {H H' : Hp} (h : Same H H') : Fr S H H' := fun b o e _ => h b o e
theorem Fr.trans {S : List Addr} {H H1 H2 : Hp} (h1 : Fr S H H1) (h2 : Fr S H1 H2) : Fr S H H2 := fun b o e n => h2 b o (h1 b o e n) n
theorem Fr.upd {S : List Addr} {H H' : Hp} {a : Addr} {o : HO} (h : Fr S H H') (ha : a ∈ S) : Fr S H (upd H' a o) := fun b u e n => by
  rw [upd_ne (fun z : b = a => n (by rw [z]; exact ha))]; exact h b u e n
theorem Fr.new {S : List Addr} {H H' : Hp} {a : Addr} {o : HO} (h : Fr S H H') (ha : H' a = none) : Fr S H (L2.upd H' a o) := fun b u e n => by
  rw [upd_ne (ne_of_none (h b u e n) ha)]; exact h b u e n
/-- an object that H does not know may change -/
theorem Fr.own {S : List Addr} {H H' : Hp} {a : Addr} {o : HO} (h : Fr S H H') (ha : H a = none) : Fr S H (L2.upd H' a o) := fun b u e n => by
  rw [upd_ne (ne_of_none e ha)]; exact h b u e n
theorem Fr.mono {S T : List Addr} {H H' : Hp} (h : Fr S H H') (st : ∀ a ∈ S, a ∈ T) : Fr T H H' := fun b o e n => h b o e fun z => n (st b z)
theorem Fr.to {S : List Addr} {H H' : Hp} (h : Fr S H H') {b : Addr} {o : HO} (e : H b = some o) (n : b ∉ S) : H' b = some o := h b o e n
/-- changes at addresses that are new to H are no changes of it -/
theorem Fr.drop {S : List Addr} {H H1 H2 : Hp} (h1 : Same H H1) (h2 : Fr S H1 H2) (n : ∀ a ∈ S, H a = none) : Same H H2 := fun b o e => h2 b o (h1 b o e) fun z => by
  rw [n b z] at e; cases e
theorem Same.fr {H H' : Hp} (h : Fr [] H H') : Same H H' := fun b o e => h b o e (by simp)
theorem Same.new {H H' : Hp} {a : Addr} {o : HO} (h : Same H H') (ha : H' a = none) : Same H (upd H' a o) := fun b u e => by
  rw [upd_ne (ne_of_none (h b u e) ha)]; exact h b u e
theorem Same.own {H H' : Hp} {a : Addr} {o : HO} (h : Same H H') (ha : H a = none) : Same H (upd H' a o) := fun b u e => by
  rw [upd_ne (ne_of_none e ha)]; exact h b u e
theorem fresh_of {H H' : Hp} (h : Same H H') {a : Addr} (e : H' a = none) : H a = none := Same.free h e
theorem not_mem1 {a b : Addr} (h : b ≠ a) : b ∉ [a] := by simp [h]
theorem not_mem2 {a c b : Addr} (h : b ≠ a) (h2 : b ≠ c) : b ∉ [a, c] := by simp [h, h2]
theorem fl_of {fs : List (Str × V)} (h : Nat.blt fs.length 1000 = true) : fs.length < 1000 := Nat.blt_eq.mp h
/-! ### the script; things that may change -/
def Mu (H : Hp) (b : Addr) : Prop := ∀ o u, H b ≠ some (.frz o u)
theorem Mu.lst {H : Hp} {b : Addr} {xs : List V} (h : H b = some (.lst xs)) : Mu H b := fun o u e => by rw [h] at e; cases e
theorem Mu.ins {H : Hp} {b C dx : Addr} {fs : List (Str × V)} (h : H b = some (.ins C dx fs)) : Mu H b := fun o u e => by rw [h] at e; cases e
theorem Mu.dK {H : Hp} {b : Addr} {xs : List (Key × V)} (h : H b = some (.dK xs)) : Mu H b := fun o u e => by rw [h] at e; cases e
theorem Mu.non {H : Hp} {b : Addr} (h : H b = none) : Mu H b := fun o u e => by rw [h] at e; cases e
/-- the script: a list of at most 63 ints, read only -/
def Scr (K : PySem.W.Frag) (H : Hp) (a : Addr) (ns : List Int) : Prop := ns.length ≤ 63 ∧ ((∃ o, H a = some (.frz o (.lst (ns.map V.int)))) ∨ SqL K (fun _ => none) a (ns.map V.int))
theorem Scr.sq {K : PySem.W.Frag} {H : Hp} {a : Addr} {ns : List Int} (s : Scr K H a ns) : SqL K H a (ns.map V.int) := by
  rcases s.2 with ⟨o, h⟩ | (h | ⟨o, h⟩) | h
  · exact .inl (.inr ⟨o, h⟩)
  · cases h
  · cases h
  · exact .inr h
theorem Scr.fr {K : PySem.W.Frag} {H H' : Hp} {a : Addr} {ns : List Int} {S : List Addr} (s : Scr K H a ns) (f : Fr S H H') (hS : ∀ b ∈ S, Mu H b) : Scr K H' a ns := by
  refine ⟨s.1, ?_⟩
  rcases s.2 with ⟨o, h⟩ | h
  · exact .inl ⟨o, f a _ h fun z => hS a z _ _ h⟩
  · exact .inr h
theorem Scr.same {K : PySem.W.Frag} {H H' : Hp} {a : Addr} {ns : List Int} (s : Scr K H a ns) (f : Same H H') : Scr K H' a ns := s.fr (S := []) (Fr.same f) (by simp)
theorem Scr.upd {K : PySem.W.Frag} {H : Hp} {a t : Addr} {o : HO} {ns : List Int} (s : Scr K H a ns) (h : Mu H t) : Scr K (L2.upd H t o) a ns := s.fr (S := [t]) (Fr.upd Fr.refl (by simp)) (by simpa using h)
theorem Scr.of {K : PySem.W.Frag} {H : Hp} {a : Addr} {ns : List Int} (hl : ns.length ≤ 63) (ho : Only H) (h : SqL K H a (ns.map V.int)) : Scr K H a ns := by
  refine ⟨hl, ?_⟩
  rcases h with (h | ⟨o, h⟩) | h
  · rcases ho a with z | ⟨o, xs, z⟩
    · rw [z] at h; cases h
    · rw [z] at h; cases h
  · exact .inl ⟨o, h⟩
  · exact .inr (.inr h)
theorem z_isX {H : Hp} {Q : VK} {K : PySem.W.Frag} {a D : Addr} {c : V} {cv : Value} {b : Bool} (h : H a = some (XO (.ref D) none a)) (hD : ExcC K D) (hc : ClsV c cv) (hk : PySem.W.kitOne K (.ref D) cv = some b) (q : Q (.bl b) H) : rIsX K [.ref a, c] H Q := ⟨a, D, c, cv, b, rfl, h, hD, hc, hk, q⟩
theorem z_count {H : Hp} {Q : VK} {K : PySem.W.Frag} {a : Addr} {ys : List V} {y : V} (h : SqL K H a ys) (fy : flatV y = true) (fys : ys.all flatV = true) (q : Q (.int (ys.countP fun z => eqV z y : Nat)) H) : rCount K (.ref a) [y] H Q := ⟨a, ys, y, rfl, rfl, h, fy, fys, q⟩
theorem z_index {H : Hp} {Q : VK} {K : PySem.W.Frag} {a : Addr} {ys : List V} {y z : V} (j : Nat) (h : SqL K H a ys) (fy : flatV y = true) (fys : ys.all flatV = true) (e : ys[j]? = some z) (ez : eqV z y = true) (hn : ∀ (m : Nat) (z' : V), m < j → ys[m]? = some z' → eqV z' y = false) (q : Q (.int (j : Nat)) H) : rIndex K (.ref a) [y] H Q := ⟨a, ys, y, j, z, rfl, rfl, h, fy, fys, e, ez, hn, q⟩
/-! ### rings -/
def ringF (m : Int) (l : Addr) (s : Int) : List (Str × V) := [("most", .int m), ("texts", .ref l), ("spot", .int s)]
structure RingAt (K : PySem.W.Frag) (H : Hp) (p l : Addr) (m : Int) (ts : List Str) (s : Int) : Prop where
  ob : ∃ dx, H p = some (.ins (He.ga K "Ring") dx (ringF m l s))
  ls : H l = some (.lst (ts.map V.str))
theorem RingAt.same {K : PySem.W.Frag} {H H' : Hp} {p l : Addr} {m : Int} {ts : List Str} {s : Int} (R : RingAt K H p l m ts s) (h : Same H H') : RingAt K H' p l m ts s :=
  ⟨let ⟨dx, e⟩ := R.ob; ⟨dx, h _ _ e⟩, h _ _ R.ls⟩
def pushR (m : Int) (x : Str) (ts : List Str) : List Str := if x = "" then ts else (x :: ts).take m.toNat
def joinR (m : Int) (x : Str) (ahead : Bool) (ts : List Str) : List Str := match ts with
  | [] => pushR m x []
  | t :: r => (if ahead then x ++ t else t ++ x) :: r

/-! ### loops -/
section
variable {σ : L2.St} {H : Hp} {D : Ends} {g : TG} {tb : TS} {ta : TA} {te : TE} {R : It → Hp → Prop} {K : PySem.W.Frag}
def ForGo (J : It) (g : TG) (tb : TS) (D : Ends) (σ : L2.St) (H1 : Hp) : Prop := ∃ W : Nat → Nat → L2.St → Hp → Prop, (∃ m, W 0 m σ H1) ∧ ∀ i m σ H, W i m σ H →
  (J.stop i H ∧ D.nx σ H) ∨ (J.go i H ∧ ∃ N : L2.St → Hp → Prop, (∀ σ' H', N σ' H' → ∃ m', m' < m ∧ W (i + 1) m' σ' H') ∧ ∀ x H', J.yld i H x H' → g x σ H' fun σ2 H2 => tb { D with nx := N, ct := N, bk := D.nx } σ2 H2)
theorem z_for {wi : TI} (q : wi σ H fun J H1 => ForGo J g tb D σ H1) : tFor wi g tb D σ H := q
theorem z_rng1 (q : ta σ H fun vs H1 => ∃ j : Int, vs = [.int j] ∧ -(2 ^ 62) ≤ j ∧ j < 2 ^ 62 ∧ R (Itr 0 j.toNat) H1) : iRng1 ta σ H R := q
theorem z_rng1e {n : Int} {c : Int → Prop} (h1 : -(2 ^ 62) ≤ n) (h2 : n < 2 ^ 62) (q : c n) : ∃ j : Int, [V.int n] = [.int j] ∧ -(2 ^ 62) ≤ j ∧ j < 2 ^ 62 ∧ c j := ⟨n, rfl, h1, h2, q⟩
theorem z_rng2 (q : ta σ H fun vs H1 => ∃ i j : Int, vs = [.int i, .int j] ∧ (-(2 ^ 62) ≤ i ∧ i < 2 ^ 62 ∧ -(2 ^ 62) ≤ j ∧ j < 2 ^ 62) ∧ R (Itr i (j - i).toNat) H1) : iRng2 ta σ H R := q
theorem z_rng2e {n m : Int} {c : Int → Int → Prop} (h : -(2 ^ 62) ≤ n ∧ n < 2 ^ 62 ∧ -(2 ^ 62) ≤ m ∧ m < 2 ^ 62) (q : c n m) : ∃ i j : Int, [V.int n, V.int m] = [.int i, .int j] ∧ (-(2 ^ 62) ≤ i ∧ i < 2 ^ 62 ∧ -(2 ^ 62) ≤ j ∧ j < 2 ^ 62) ∧ c i j := ⟨n, m, rfl, h, q⟩
theorem fg_range {lo : Int} {n : Nat} (Pv : Nat → L2.St → Hp → Prop) (h0 : Pv 0 σ H) (hs : ∀ i σ H, i < n → Pv i σ H → g (.int (lo + i)) σ H fun σ2 H2 => tb { D with nx := Pv (i + 1), ct := Pv (i + 1), bk := D.nx } σ2 H2) (hd : ∀ σ H, Pv n σ H → D.nx σ H) : ForGo (Itr lo n) g tb D σ H := for_range Pv h0 hs hd
theorem fg_list {a : Addr} {xs : List V} (Pv : Nat → L2.St → Hp → Prop) (h0 : Pv 0 σ H) (hl : ∀ i σ H, i ≤ xs.length → Pv i σ H → SqL K H a xs) (hs : ∀ i x σ H, xs[i]? = some x → Pv i σ H → g x σ H fun σ2 H2 => tb { D with nx := Pv (i + 1), ct := Pv (i + 1), bk := D.nx } σ2 H2) (hd : ∀ σ H, Pv xs.length σ H → D.nx σ H) : ForGo (Itl K a) g tb D σ H := for_list Pv h0 hl hs hd
theorem fg_tup {a : Addr} {xs : List V} (Pv : Nat → L2.St → Hp → Prop) (h0 : Pv 0 σ H) (hl : ∀ i σ H, i ≤ xs.length → Pv i σ H → SqT K H a xs) (hs : ∀ i x σ H, xs[i]? = some x → Pv i σ H → g x σ H fun σ2 H2 => tb { D with nx := Pv (i + 1), ct := Pv (i + 1), bk := D.nx } σ2 H2) (hd : ∀ σ H, Pv xs.length σ H → D.nx σ H) : ForGo (Itt K a) g tb D σ H := for_tup Pv h0 hl hs hd
theorem lg_range {lo : Int} {n : Nat} {tt : TT} {vs : List Nat} {D : Addr} {Qd : Hp → Prop} (Pv : Nat → Hp → Prop) (h0 : Pv 0 (upd H D (.lst []))) (hs : ∀ i H, i < n → Pv i H → g (.int (lo + i)) (wipe σ vs) H fun σ2 H2 => wipe σ2 vs = wipe σ vs ∧ tt σ2 H2 fun b H3 => if b = true then te σ2 H3 fun y H4 => ∃ acc, H4 D = some (.lst acc) ∧ acc.length < sizeLine ∧ Pv (i + 1) (upd H4 D (.lst (acc ++ [y]))) else Pv (i + 1) H3) (hd : ∀ H, Pv n H → Qd H) : LcGo (Itr lo n) g tt te vs σ D H Qd := lc_range Pv h0 hs hd
theorem lg_list {a : Addr} {xs : List V} {tt : TT} {vs : List Nat} {D : Addr} {Qd : Hp → Prop} (Pv : Nat → Hp → Prop) (h0 : Pv 0 (upd H D (.lst []))) (hl : ∀ i H, i ≤ xs.length → Pv i H → SqL K H a xs) (hs : ∀ i x H, xs[i]? = some x → Pv i H → g x (wipe σ vs) H fun σ2 H2 => wipe σ2 vs = wipe σ vs ∧ tt σ2 H2 fun b H3 => if b = true then te σ2 H3 fun y H4 => ∃ acc, H4 D = some (.lst acc) ∧ acc.length < sizeLine ∧ Pv (i + 1) (upd H4 D (.lst (acc ++ [y]))) else Pv (i + 1) H3) (hd : ∀ H, Pv xs.length H → Qd H) : LcGo (Itl K a) g tt te vs σ D H Qd := lc_list Pv h0 hl hs hd
theorem lg_tup {a : Addr} {xs : List V} {tt : TT} {vs : List Nat} {D : Addr} {Qd : Hp → Prop} (Pv : Nat → Hp → Prop) (h0 : Pv 0 (upd H D (.lst []))) (hl : ∀ i H, i ≤ xs.length → Pv i H → SqT K H a xs) (hs : ∀ i x H, xs[i]? = some x → Pv i H → g x (wipe σ vs) H fun σ2 H2 => wipe σ2 vs = wipe σ vs ∧ tt σ2 H2 fun b H3 => if b = true then te σ2 H3 fun y H4 => ∃ acc, H4 D = some (.lst acc) ∧ acc.length < sizeLine ∧ Pv (i + 1) (upd H4 D (.lst (acc ++ [y]))) else Pv (i + 1) H3) (hd : ∀ H, Pv xs.length H → Qd H) : LcGo (Itt K a) g tt te vs σ D H Qd := lc_tup Pv h0 hl hs hd
/-- while: an invariant and a measure -/
theorem z_while {c : TT} (Pv : Nat → L2.St → Hp → Prop) (m0 : Nat) (h0 : Pv m0 σ H) (hs : ∀ m σ H, Pv m σ H → c σ H fun b H1 => if b = true then ∃ N : L2.St → Hp → Prop, (∀ σ' H', N σ' H' → ∃ m', m' < m ∧ Pv m' σ' H') ∧ tb { D with nx := N, ct := N, bk := D.nx } σ H1 else D.nx σ H1) : tWhile c tb D σ H := ⟨Pv, ⟨m0, h0⟩, hs⟩
theorem z_turn {m : Nat} {Pv : Nat → L2.St → Hp → Prop} (q : tb { D with nx := fun σ' H' => ∃ m', m' < m ∧ Pv m' σ' H', ct := fun σ' H' => ∃ m', m' < m ∧ Pv m' σ' H', bk := D.nx } σ H) : ∃ N : L2.St → Hp → Prop, (∀ σ' H', N σ' H' → ∃ m', m' < m ∧ Pv m' σ' H') ∧ tb { D with nx := N, ct := N, bk := D.nx } σ H := ⟨_, fun _ _ h => h, q⟩
theorem z_rep {Q : VK} {l : Addr} {k : Int} {xs : List V} (h : H l = some (.lst xs)) (h1 : -(2 ^ 63) ≤ k) (h2 : k < 2 ^ 63) (h3 : xs.length * k.toNat ≤ sizeLine) (q : ∀ p, H p = none → Q (.ref p) (upd H p (.lst (List.replicate k.toNat xs).flatten))) : rRep (.ref l) (.int k) H Q := ⟨l, k, xs, rfl, rfl, h, h1, h2, h3, q⟩
theorem z_in {Q : VK} {neg : Bool} {x : V} {p : Addr} {xs : List V} (h : SqL K H p xs ∨ SqT K H p xs) (fx : flatV x = true) (fs : xs.all flatV = true) (q : Q (.bl (if neg then !inV x xs else inV x xs)) H) : rIn K neg x (.ref p) H Q := ⟨p, xs, rfl, h, fx, fs, q⟩
end
theorem mem_strs {v : V} {ws : List Str} (h : v ∈ ws.map V.str) : ∃ w, w ∈ ws ∧ v = .str w := by
  obtain ⟨w, hw, rfl⟩ := List.mem_map.mp h
  exact ⟨w, hw, rfl⟩
theorem z_cut {D : Ends} {σ : L2.St} {H : Hp} {tu tz : TS} (M : L2.St → Hp → Prop) (h : tu { D with nx := M } σ H) (q : ∀ σ' H', M σ' H' → tz D σ' H') : Evl.tCut tu tz D σ H := ⟨M, h, q⟩
theorem si_ok {n : Int} (h : n.natAbs < 1920) : n.natAbs.log2 < 1920 := Nat.lt_of_le_of_lt (Nat.log2_le_self _) h
/-! ### deep equality -/
mutual
theorem eqv_refl : ∀ (d : PyData), d.canLay0 = true → PyData.eqv d d = true
  | .none, _ => by simp only [PyData.eqv]
  | .bool b, _ => by simp only [PyData.eqv, beq_self_eq_true]
  | .int i, _ => by simp only [PyData.eqv, beq_self_eq_true]
  | .str x, _ => by simp only [PyData.eqv, beq_self_eq_true]
  | .list xs, h => by simp only [PyData.eqv]; exact eqvAll_refl xs (by simpa only [PyData.canLay0] using h)
  | .tuple xs, h => by simp only [PyData.eqv]; exact eqvAll_refl xs (by simpa only [PyData.canLay0] using h)
  | .dict _, h => by simp [PyData.canLay0] at h
theorem eqvAll_refl : ∀ (ds : List PyData), PyData.canLayAll0 ds = true → PyData.eqvAll ds ds = true
  | [], _ => by simp only [PyData.eqvAll]
  | d :: ds, h => by
    simp only [PyData.canLayAll0, Bool.and_eq_true] at h
    simp only [PyData.eqvAll, Bool.and_eq_true]
    exact ⟨eqv_refl d h.1, eqvAll_refl ds h.2⟩
end
section
variable {K : PySem.W.Frag} {H : Hp} {Q : VK} {x y : V} {d e : PyData} {a : Addr} {xs : List V} {ds : List PyData}
theorem lay_of (h : SeqAt.shaped d = true) : d.canLay0 = true := SeqAt.canLay_of_shaped h
theorem z_neD (hx : Dp K H x d) (hy : Dp K H y e) (sd : SeqAt.shaped d = true) (se : SeqAt.shaped e = true) (q : Q (.bl (!PyData.eqv d e)) H) : rNeD K x y H Q := ⟨d, e, hx, hy, sd, se, q⟩
theorem z_eqD (hx : Dp K H x d) (hy : Dp K H y e) (sd : SeqAt.shaped d = true) (se : SeqAt.shaped e = true) (q : Q (.bl (PyData.eqv d e)) H) : rEqD K x y H Q := ⟨d, e, hx, hy, sd, se, q⟩
theorem z_neS (hx : Dp K H x d) (hy : Dp K H y d) (sd : SeqAt.shaped d = true) (q : Q (.bl false) H) : rNeD K x y H Q := ⟨d, d, hx, hy, sd, sd, by rw [eqv_refl d (lay_of sd)]; exact q⟩
theorem z_eqS (hx : Dp K H x d) (hy : Dp K H y d) (sd : SeqAt.shaped d = true) (q : Q (.bl true) H) : rEqD K x y H Q := ⟨d, d, hx, hy, sd, sd, by rw [eqv_refl d (lay_of sd)]; exact q⟩
def strD (ts : List Str) : PyData := .list (ts.map .str)
theorem dpAll_strs : ∀ (ts : List Str), DpAll K H (ts.map V.str) (ts.map .str)
  | [] => .nil
  | t :: r => .cons (.str t) (dpAll_strs r)
theorem dp_strs {ts : List Str} (h : SqL K H a (ts.map V.str)) : Dp K H (.ref a) (strD ts) := .lst h (dpAll_strs ts)
/-- texts of plain signs -/
def plainS (x : Str) : Bool := (tl x).all fun c => decide (c < 128)
theorem strOk_plain {x : Str} (h : plainS x = true) : PyData.strOk x = true := by
  unfold plainS tl at h
  unfold PyData.strOk
  rw [← Array.all_toList]
  rw [List.all_eq_true] at h ⊢
  intro c hc
  have := of_decide_eq_true (h c hc)
  exact decide_eq_true (by omega)
theorem lay_strs : ∀ {ts : List Str}, (∀ t ∈ ts, plainS t = true) → PyData.canLayAll0 (ts.map .str) = true
  | [], _ => by simp only [List.map_nil, PyData.canLayAll0]
  | t :: r, h => by
    simp only [List.map_cons, PyData.canLayAll0, PyData.canLay0, Bool.and_eq_true]
    exact ⟨strOk_plain (h t (by simp)), lay_strs fun z hz => h z (by simp [hz])⟩
theorem depth_strs : ∀ (ts : List Str), PyData.depthAll (ts.map .str) ≤ 1
  | [] => by simp [PyData.depthAll]
  | t :: r => by
    have := depth_strs r
    simp only [List.map_cons, PyData.depthAll, PyData.depth]
    omega
theorem shaped_str {x : Str} (h : plainS x = true) : SeqAt.shaped (.str x) = true := by
  unfold SeqAt.shaped
  simp only [PyData.canLay0, PyData.depth, strOk_plain h, Bool.true_and]
  rfl
theorem shaped_strs {ts : List Str} (h : ∀ t ∈ ts, plainS t = true) : SeqAt.shaped (strD ts) = true := by
  unfold SeqAt.shaped strD
  have := depth_strs ts
  simp only [PyData.canLay0, PyData.depth, lay_strs h, Bool.true_and]
  exact decide_eq_true (by omega)
end
section
variable {K : PySem.W.Frag} {H : Hp} {a : Addr}
def intD (ns : List Int) : PyData := .list (ns.map .int)
theorem dpAll_ints : ∀ (ns : List Int), DpAll K H (ns.map V.int) (ns.map .int)
  | [] => .nil
  | t :: r => .cons (.int t) (dpAll_ints r)
theorem dp_ints {ns : List Int} (h : SqL K H a (ns.map V.int)) : Dp K H (.ref a) (intD ns) := .lst h (dpAll_ints ns)
theorem lay_ints : ∀ (ns : List Int), PyData.canLayAll0 (ns.map .int) = true
  | [] => by simp only [List.map_nil, PyData.canLayAll0]
  | t :: r => by simp only [List.map_cons, PyData.canLayAll0, PyData.canLay0, lay_ints r, Bool.and_self]
theorem depth_ints : ∀ (ns : List Int), PyData.depthAll (ns.map .int) ≤ 1
  | [] => by simp [PyData.depthAll]
  | t :: r => by
    have := depth_ints r
    simp only [List.map_cons, PyData.depthAll, PyData.depth]
    omega
theorem shaped_ints (ns : List Int) : SeqAt.shaped (intD ns) = true := by
  unfold SeqAt.shaped intD
  have := depth_ints ns
  simp only [PyData.canLay0, PyData.depth, lay_ints ns, Bool.true_and]
  exact decide_eq_true (by omega)
theorem eqv_ints_nil (ns : List Int) : PyData.eqv (intD ns) (intD []) = ns.isEmpty := by
  cases ns with
  | nil => simp [intD, PyData.eqv, PyData.eqvAll]
  | cons t r => simp [intD, PyData.eqv, PyData.eqvAll]
theorem shaped_int (i : Int) : SeqAt.shaped (.int i) = true := by
  unfold SeqAt.shaped
  simp only [PyData.canLay0, PyData.depth, Bool.true_and]
  rfl
end
/-! ### lists of refusals -/
section
variable {K : PySem.W.Frag} {H H1 : Hp} {Q : VK} {σ : L2.St} {te : TE} {vs : List Nat} {D : Addr} {Qd : Hp → Prop}
def refD (w : Str) : PyData := .tuple [.str "refused", .str w]
def refsD (n : Nat) (w : Str) : PyData := .list (List.replicate n (refD w))
theorem dp_ref {r : Addr} {w : Str} (h : H r = some (.tup [.str "refused", .str w])) : Dp K H (.ref r) (refD w) := .tup (SqT.of h) (.cons (.str _) (.cons (.str _) .nil))
theorem dpAll_refs {w : Str} : ∀ {rs : List Addr}, (∀ r ∈ rs, H r = some (.tup [.str "refused", .str w])) → DpAll K H (rs.map V.ref) (List.replicate rs.length (refD w))
  | [], _ => .nil
  | r :: rs, h => .cons (dp_ref (h r (by simp))) (dpAll_refs fun z hz => h z (by simp [hz]))
theorem dp_refs {a : Addr} {w : Str} {rs : List Addr} {n : Nat} (h : H a = some (.lst (rs.map V.ref))) (hn : rs.length = n) (hr : ∀ r ∈ rs, H r = some (.tup [.str "refused", .str w])) : Dp K H (.ref a) (refsD n w) := by
  rw [← hn]; exact .lst (SqL.of h) (dpAll_refs hr)
theorem lay_refs {w : Str} (h : plainS w = true) : ∀ n, PyData.canLayAll0 (List.replicate n (refD w)) = true
  | 0 => by simp [PyData.canLayAll0]
  | n + 1 => by
    simp only [List.replicate_succ, PyData.canLayAll0, lay_refs h n, Bool.and_true, refD, PyData.canLay0, Bool.and_eq_true]
    exact ⟨⟨strOk_plain (x := "refused") (by decide +kernel), strOk_plain h⟩, lay_refs h n⟩
theorem depth_refs {w : Str} : ∀ n, PyData.depthAll (List.replicate n (refD w)) ≤ 3
  | 0 => by simp [PyData.depthAll]
  | n + 1 => by
    have := depth_refs (w := w) n
    simp only [List.replicate_succ, PyData.depthAll, refD, PyData.depth]
    simp only [refD] at this
    omega
theorem shaped_refs {w : Str} (h : plainS w = true) (n : Nat) : SeqAt.shaped (refsD n w) = true := by
  unfold SeqAt.shaped refsD
  have := depth_refs (w := w) n
  simp only [PyData.canLay0, PyData.depth, lay_refs h, Bool.true_and]
  exact decide_eq_true (by omega)
/-- the items of a comprehension are refusals, each a new tuple -/
def RefGo (te : TE) (σ : L2.St) (w : Str) (H1 : Hp) : Prop := ∀ (H2 : Hp) (Q2 : VK), Same H1 H2 → (∀ r H3, H2 r = none → Same H2 H3 → H3 r = some (.tup [.str "refused", .str w]) → Q2 (.ref r) H3) → te σ H2 Q2
def RefEnd (H1 : Hp) (D : Addr) (n : Nat) (w : Str) (H' : Hp) : Prop := Same H1 H' ∧ ∃ rs : List Addr, H' D = some (.lst (rs.map V.ref)) ∧ rs.length = n ∧ ∀ r ∈ rs, H' r = some (.tup [.str "refused", .str w])
theorem ref_turn {n i : Nat} {w : Str} {H2 : Hp} {σ2 : L2.St} (hn : n < 1000) (hi : i < n) (hD : H1 D = none) (p : RefEnd H1 D i w H2) (he : RefGo te σ2 w H1) : te σ2 H2 fun y H4 => ∃ acc, H4 D = some (.lst acc) ∧ acc.length < sizeLine ∧ RefEnd H1 D (i + 1) w (upd H4 D (.lst (acc ++ [y]))) := by
  obtain ⟨s2, rs, hd, hl, hr⟩ := p
  refine he H2 _ s2 fun r H3 r0 s3 h3 => ⟨rs.map V.ref, s3 _ _ hd, by rw [List.length_map, sizeLine_eq]; omega, ?_⟩
  have nrD : r ≠ D := (ne_of_none hd r0).symm
  refine ⟨Same.own (Same.trans s2 s3) hD, rs ++ [r], by rw [upd_same, List.map_append]; rfl, by simp [hl], fun z hz => ?_⟩
  have nz : z ≠ D := by
    rcases List.mem_append.mp hz with q | q
    · exact ne_of (hr z q) hd (by intro z; cases z)
    · rw [List.mem_singleton.mp q]; exact nrD
  rw [upd_ne nz]
  rcases List.mem_append.mp hz with q | q
  · exact s3 _ _ (hr z q)
  · rw [List.mem_singleton.mp q]; exact h3
theorem lc_refTup {a : Addr} {xs : List V} {j : Nat} {w : Str} (hT : SqT K H1 a xs) (hn : xs.length < 1000) (hw : ∀ v, wipe ((wipe σ vs).set j (some v)) vs = wipe σ vs) (hD : H1 D = none) (he : ∀ x ∈ xs, RefGo te ((wipe σ vs).set j (some x)) w H1) (hd : ∀ H', RefEnd H1 D xs.length w H' → Qd H') : LcGo (Itt K a) (gName j) tYes te vs σ D H1 Qd := by
  refine lg_tup (K := K) (xs := xs) (fun i H2 => RefEnd H1 D i w H2) ⟨Same.own (Same.refl _) hD, [], upd_same, rfl, by simp⟩ (fun i H2 _ p => Evl.ex_t p.1 hT) ?_ hd
  intro i x H2 hx p
  exact ⟨hw _, z_yes (iteT (ref_turn hn (List.getElem?_eq_some_iff.mp hx).1 hD p (he x (List.mem_of_getElem? hx))))⟩
theorem lc_refRng {n : Nat} {lo : Int} {j : Nat} {w : Str} (hn : n < 1000) (hw : ∀ v, wipe ((wipe σ vs).set j (some v)) vs = wipe σ vs) (hD : H1 D = none) (he : ∀ i, i < n → RefGo te ((wipe σ vs).set j (some (.int (lo + (i : Nat))))) w H1) (hd : ∀ H', RefEnd H1 D n w H' → Qd H') : LcGo (Itr lo n) (gName j) tYes te vs σ D H1 Qd := by
  refine lg_range (fun i H2 => RefEnd H1 D i w H2) ⟨Same.own (Same.refl _) hD, [], upd_same, rfl, by simp⟩ ?_ hd
  intro i H2 hi p
  exact ⟨hw _, z_yes (iteT (ref_turn hn hi hD p (he i hi)))⟩
/-- [("refused", w)] * n -/
theorem dp_rep {a r : Addr} {w : Str} (n : Nat) (h : H a = some (.lst (List.replicate n [V.ref r]).flatten)) (hr : H r = some (.tup [.str "refused", .str w])) : Dp K H (.ref a) (refsD n w) := by
  have e : (List.replicate n [V.ref r]).flatten = (List.replicate n r).map V.ref := by
    induction n with
    | zero => rfl
    | succ n ih => rw [List.replicate_succ, List.flatten_cons, List.replicate_succ, List.map_cons]; simp
  rw [e] at h
  refine dp_refs h (by simp) fun z hz => ?_
  rw [List.eq_of_mem_replicate hz]; exact hr
end

theorem z_rng3 {σ : L2.St} {H : Hp} {ta : TA} {R : It → Hp → Prop} (q : ta σ H fun vs H1 => ∃ (i j c : Int) (n : Nat), vs = [.int i, .int j, .int c] ∧ RgC i j c n ∧ R (Itc i c n) H1) : iRng3 ta σ H R := q
theorem z_rng3e {a b c : Int} {n : Nat} {P : Int → Int → Nat → Prop} (h : RgC a b c n) (q : P a c n) : ∃ (i j c' : Int) (n : Nat), [V.int a, V.int b, V.int c] = [.int i, .int j, .int c'] ∧ RgC i j c' n ∧ P i c' n := ⟨a, b, c, n, rfl, h, q⟩
theorem fg_rangeC {σ : L2.St} {H : Hp} {D : Ends} {g : TG} {tb : TS} {lo c : Int} {n : Nat} (Pv : Nat → L2.St → Hp → Prop) (h0 : Pv 0 σ H) (hs : ∀ i σ H, i < n → Pv i σ H → g (.int (lo + (i : Nat) * c)) σ H fun σ2 H2 => tb { D with nx := Pv (i + 1), ct := Pv (i + 1), bk := D.nx } σ2 H2) (hd : ∀ σ H, Pv n σ H → D.nx σ H) : ForGo (Itc lo c n) g tb D σ H := for_rangeC Pv h0 hs hd
theorem z_inStr {H : Hp} {Q : VK} {x y : Str} (q : Q (.bl (!(Builtin.Str.occurrences y x 0 y.length 1).isEmpty)) H) : rInStr (.str x) (.str y) H Q := ⟨x, y, rfl, rfl, q⟩
/-! ### the rules with the written part named -/
section
variable {X : Cx} {K : PySem.W.Frag}
theorem ix_listK (h : X.K = K) : IxR X (rIxL K) := h ▸ ix_list
theorem ix_tupK (h : X.K = K) : IxR X (rIxT K) := h ▸ ix_tup
theorem call_lnK (h : X.K = K) : CallR X (.builtin "len") (rLn K) := h ▸ call_ln
theorem call_loK (h : X.K = K) : CallR X (.type "list") (rLstOf K) := h ▸ call_lo
theorem cr_allK (h : X.K = K) (hc : X.calm = true) : CallR X (.builtin "all") (rAll K) := h ▸ cr_all hc
theorem cr_anyK (h : X.K = K) (hc : X.calm = true) : CallR X (.builtin "any") (rAny K) := h ▸ cr_any hc
theorem cr_minK (h : X.K = K) (hc : X.calm = true) : CallR X (.builtin "min") (rMin K) := h ▸ cr_min hc
theorem cr_maxK (h : X.K = K) (hc : X.calm = true) : CallR X (.builtin "max") (rMax K) := h ▸ cr_max hc
theorem op_eqDK (h : X.K = K) (hu : X.A.units + 64 < cLine) : OpR X (compareOp .Eq) (rEqD K) := h ▸ op_eqD hu
theorem op_neDK (h : X.K = K) (hu : X.A.units + 64 < cLine) : OpR X (compareOp .NotEq) (rNeD K) := h ▸ op_neD hu
theorem op_inK (h : X.K = K) : OpR X (compareOp .In) (rIn K false) := h ▸ op_in_seq
theorem op_notInK (h : X.K = K) : OpR X (compareOp .NotIn) (rIn K true) := h ▸ op_notIn_seq
theorem sl_listK (h : X.K = K) : SlR X (rSlL K) := h ▸ sl_list
theorem call_isXK (h : X.K = K) : CallR X (.builtin "isinstance") (rIsX K) := h ▸ call_isX
theorem mt_countK (h : X.K = K) : MtR X "list.count" (rCount K) := h ▸ mt_countF
theorem mt_indexK (h : X.K = K) : MtR X "list.index" (rIndex K) := h ▸ mt_index
theorem pt_trK {a : Expr} {ta : TE} (h : X.K = K) (ha : PE X a ta) (he : ∀ whole, isTrue a X.env whole = (do let v ← whole; standAt a.pos; holding [v] (truthy v)) := by intro _; rfl) : PT X a (tTr K ta) := h ▸ pt_tr ha he
theorem pi_listK {tg l : Expr} {tl : TE} (h : X.K = K) (hl : PE X l tl) : PI X tg l (iList K tl) := h ▸ pi_list hl
theorem pi_tupK {tg l : Expr} {tl : TE} (h : X.K = K) (hl : PE X l tl) : PI X tg l (iTup K tl) := h ▸ pi_tup hl
variable {o e : Expr} {es : List Expr} {to : TE} {t : TA} {name : Str} {apos cpos : Pos} {T id : String} {r : V → List V → Hp → VK → Prop}
theorem pe_bm0K (h : X.K = K) (pa : PlainAttrs T) (slot : Slot T name id) (hty : typeOf (.builtin id) = pure (.type "method_descriptor")) (hm : MtR X id r) (ho : PE X o to) (hbase : attributeBase o name X.env (eval o X.env) = eval o X.env := by rfl) (hline : (apos.endLine == cpos.line) = true := by rfl) : PE X (.Call (.Attribute o name apos) [] [] cpos) (tBM0 K T r to) := h ▸ pe_bm0 pa slot hty hm ho hbase hline
theorem pe_bmK (h : X.K = K) (pa : PlainAttrs T) (slot : Slot T name id) (hty : typeOf (.builtin id) = pure (.type "method_descriptor")) (hm : MtR X id r) (ho : PE X o to) (ha : PA X (e :: es) t) (hbase : attributeBase o name X.env (eval o X.env) = eval o X.env := by rfl)
    (hfew : ((backTo cpos (starEach (e :: es) X.env)).all (fun x => !x.1) && (backToKw cpos (keywordEach [] X.env)).all (fun x => x.1.isSome) && decide ((e :: es).length + ([] : List Keyword).length + (if ([] : List Keyword).isEmpty then 0 else 1) < 30)) = true := by rfl)
    (hline : (apos.endLine == cpos.line) = true := by rfl) (hs : starEach (e :: es) X.env = (false, eval e X.env) :: starEach es X.env := by rfl) (hplain : (backTo cpos (starEach es X.env)).any (·.1) = false := by rfl) : PE X (.Call (.Attribute o name apos) (e :: es) [] cpos) (tBM K T r to t) := h ▸ pe_bm pa slot hty hm ho ha hbase hfew hline hs hplain
theorem pg_tupK {es : List Expr} {k : Nat} {t : TGs} {n : Nat} {pos : Pos} (hK : X.K = K) (hc : X.calm = true) (h : PGs X es t) (hn : (assignEach es X.env).length = n := by rfl) (hst : (assignEach es X.env).findIdx? (·.1) = none := by rfl) : PG X (.Tuple es k pos) (gTup K n t) := hK ▸ pg_tup hc h hn hst
end
/-! ### a comprehension over a range, tests and items that leave the heap as it is -/
theorem range_filter_succ {n : Nat} {f : Nat → Bool} : (List.range (n + 1)).filter f = (List.range n).filter f ++ (if f n = true then [n] else []) := by
  rw [List.range_succ, List.filter_append, List.filter_cons, List.filter_nil]
theorem lc_rngP {σ : L2.St} {H1 : Hp} {te : TE} {tt : TT} {vs : List Nat} {D : Addr} {Qd : Hp → Prop} {lo : Int} {n j : Nat} (f : Nat → Bool) (v : Nat → V) (hn : n < 1000000) (hw : ∀ v, wipe ((wipe σ vs).set j (some v)) vs = wipe σ vs) (hD : H1 D = none)
    (ht : ∀ (i : Nat) (H2 : Hp) (Q2 : Bool → Hp → Prop), i < n → Same H1 H2 → Q2 (f i) H2 → tt ((wipe σ vs).set j (some (.int (lo + (i : Nat))))) H2 Q2)
    (he : ∀ (i : Nat) (H2 : Hp) (Q2 : VK), i < n → f i = true → Same H1 H2 → Q2 (v i) H2 → te ((wipe σ vs).set j (some (.int (lo + (i : Nat))))) H2 Q2)
    (hd : Qd (upd H1 D (.lst (((List.range n).filter f).map v)))) : LcGo (Itr lo n) (gName j) tt te vs σ D H1 Qd := by
  refine lg_range (fun i H2 => H2 = upd H1 D (.lst (((List.range i).filter f).map v))) rfl ?_ (fun H e => by rw [e]; exact hd)
  rintro i H2 hi rfl
  have sm : Same H1 (upd H1 D (.lst (((List.range i).filter f).map v))) := Same.own (Same.refl _) hD
  refine ⟨hw _, ht i _ _ hi sm ?_⟩
  refine ite_b (fun h => ?_) (fun h => ?_)
  · refine he i _ _ hi h sm ⟨_, upd_same, ?_, ?_⟩
    · rw [List.length_map, sizeLine_eq]
      have := List.length_filter_le f (List.range i)
      rw [List.length_range] at this
      omega
    · rw [upd_upd, range_filter_succ, if_pos h, List.map_append]; rfl
  · rw [range_filter_succ, if_neg (by rw [h]; exact Bool.false_ne_true), List.append_nil]
/-! ### histories -/
def histF (m : Int) (lk ls : Addr) (s : Int) : List (Str × V) := [("most", .int m), ("kept", .ref lk), ("shown", .ref ls), ("spot", .int s)]
structure HistAt (K : PySem.W.Frag) (H : Hp) (p lk ls : Addr) (m : Int) (ks ss : List Str) (s : Int) : Prop where
  ob : ∃ dx, H p = some (.ins (He.ga K "History") dx (histF m lk ls s))
  kl : H lk = some (.lst (ks.map V.str))
  sl : H ls = some (.lst (ss.map V.str))
  ne : lk ≠ ls
section
variable {K : PySem.W.Frag} {H H' : Hp} {p lk ls : Addr} {m : Int} {ks ss : List Str} {s : Int}
theorem HistAt.same (R : HistAt K H p lk ls m ks ss s) (h : Same H H') : HistAt K H' p lk ls m ks ss s :=
  ⟨let ⟨dx, e⟩ := R.ob; ⟨dx, h _ _ e⟩, h _ _ R.kl, h _ _ R.sl, R.ne⟩
theorem HistAt.fr {S : List Addr} (R : HistAt K H p lk ls m ks ss s) (h : Fr S H H') (h1 : p ∉ S) (h2 : lk ∉ S) (h3 : ls ∉ S) : HistAt K H' p lk ls m ks ss s :=
  ⟨let ⟨dx, e⟩ := R.ob; ⟨dx, h _ _ e h1⟩, h _ _ R.kl h2, h _ _ R.sl h3, R.ne⟩
end
/-- a line is added: not an empty one, none like the last; the oldest goes -/
def addH (m : Int) (x : Str) (ks : List Str) : List Str := if x = "" ∨ ks.getLast? = some x then ks else (ks ++ [x]).drop ((ks ++ [x]).length - m.toNat)
/-- whether a part is in a text -/
def inS (part x : Str) : Bool := !(Builtin.Str.occurrences x part 0 x.length 1).isEmpty
def hitH (ks : List Str) (part : Str) (spot : Int) (j : Nat) : Bool := decide ((j : Int) ≤ spot) && inS part (ks.getD j "")
/-- the last line from a place back that has a part -/
def findH (ks : List Str) (part : Str) (spot : Int) : Option Nat := ((List.range ks.length).filter (hitH ks part spot)).getLast?
def optV : Option Nat → V
  | none => .non
  | some k => .int (k : Nat)
theorem last_filter {n k : Nat} {f : Nat → Bool} (hk : k < n) (h1 : f k = true) (h2 : ∀ j, k < j → j < n → f j = false) : ((List.range n).filter f).getLast? = some k := by
  induction n with
  | zero => omega
  | succ n ih =>
    rw [List.range_succ, List.filter_append]
    by_cases e : k = n
    · subst e
      rw [List.filter_cons, if_pos h1]
      simp
    · have hn : f n = false := h2 n (by omega) (by omega)
      rw [List.filter_cons, if_neg (by rw [hn]; simp), List.filter_nil, List.append_nil]
      exact ih (by omega) fun j a b => h2 j a (by omega)
theorem none_filter {n : Nat} {f : Nat → Bool} (h2 : ∀ j, j < n → f j = false) : ((List.range n).filter f).getLast? = none := by
  have : (List.range n).filter f = [] := List.filter_eq_nil_iff.mpr fun j hj => by rw [h2 j (List.mem_range.mp hj)]; simp
  rw [this]; rfl
theorem eqv_strs (xs ys : List Str) : PyData.eqv (strD xs) (strD ys) = decide (xs = ys) := by
  unfold strD
  simp only [PyData.eqv]
  induction xs generalizing ys with
  | nil => cases ys with
    | nil => simp [PyData.eqvAll]
    | cons y r => simp [PyData.eqvAll]
  | cons x xs ih => cases ys with
    | nil => simp [PyData.eqvAll]
    | cons y r =>
      simp only [List.map_cons, PyData.eqvAll, PyData.eqv, ih, List.cons.injEq]
      by_cases e1 : x = y
      · subst e1; simp
      · have : (x == y) = false := beq_eq_false_iff_ne.mpr e1
        rw [this, Bool.false_and]; simp [e1]
theorem last_slice (ks : List Str) : cutL ks (some (-1)) none = match ks.getLast? with | some x => [x] | none => [] := by
  rw [show (-1 : Int) = -(1 : Int) from rfl, cutL_lastN ks (by decide)]
  rcases List.eq_nil_or_concat ks with rfl | ⟨l, x, rfl⟩
  · rfl
  · simp

local macro_rules
  | `(tactic| walk_at "ne") => `(tactic| first | assumption | exact Ne.symm (by assumption) | exact ne_of_none (by assumption) (by assumption) | exact Ne.symm (ne_of_none (by assumption) (by assumption)) | exact ne_of (by assumption) (by assumption) (by intro z; cases z))
local macro_rules
  | `(tactic| walk_at "h") => `(tactic| first | assumption | exact upd_same | (refine Eq.trans (upd_ne ?hne) ?hrest; (case hne => walk_at "ne"); (case hrest => walk_at "h")))
local macro_rules
  | `(tactic| walk_at "sq") => `(tactic| first | assumption | exact SqL.of (by walk_at "h") | exact SqT.of (by walk_at "h"))
local macro_rules
  | `(tactic| walk_at "sz") => `(tactic| first | assumption | (simp only [sizeLine_eq, len_app, List.length_append, List.length_cons, List.length_nil, List.length_map, Nat.zero_add]; omega) | decide)
local macro_rules
  | `(tactic| walk_at "mem") => `(tactic| first | exact List.mem_cons_self | (apply List.mem_cons_of_mem; walk_at "mem"))
local macro_rules
  | `(tactic| walk_at "fr") => `(tactic| first | exact Fr.refl | assumption | exact Fr.same (by assumption) | (refine Fr.upd ?_ ?hm; (case hm => walk_at "mem"); walk_at "fr") | (refine Fr.new ?_ ?hm; (case hm => assumption); walk_at "fr") | (refine Fr.own ?_ ?hm; (case hm => assumption); walk_at "fr"))
local macro_rules
  | `(tactic| walk_at "sa") => `(tactic| first | exact Same.refl _ | assumption | (refine Same.new ?_ ?hm; (case hm => assumption); walk_at "sa") | (refine Same.own ?_ ?hm; (case hm => assumption); walk_at "sa"))
local macro_rules
  | `(tactic| walk_at "fl") => `(tactic| exact fl_of rfl)
local macro_rules
  | `(tactic| walk_at "z1") => `(tactic| first
    | ((with_reducible refine' z_var ?h0 ?_); (case h0 => exact rfl))
    | with_reducible refine z_c ?_
    | with_reducible refine z_seq ?_
    | with_reducible refine z_op ?_
    | with_reducible refine z_get ?_
    | ((with_reducible refine' z_get1 ?h0 ?h1 ?_); (case h0 => walk_at "h"); (case h1 => exact rfl))
    | with_reducible refine z_cons ?_
    | with_reducible refine z_nil ?_
    | with_reducible refine z_i0 ?_
    | with_reducible refine z_call ?_
    | with_reducible refine z_mt ?_
    | ((with_reducible refine' z_mt1 ?h0 ?h1 ?_); (case h0 => walk_at "h"); (case h1 => exact rfl))
    | with_reducible refine z_put ?_
    | ((with_reducible refine' z_put1 ?h0 ?h1 ?_); (case h0 => walk_at "h"); (case h1 => walk_at "fl"))
    | with_reducible refine z_cb ?_
    | ((with_reducible refine' z_lenS ?h0 ?_); (case h0 => walk_at "sz"))
    | ((with_reducible refine' z_lenL ?h0 ?_); (case h0 => walk_at "sq"))
    | ((with_reducible refine' z_lenT ?h0 ?_); (case h0 => walk_at "sq"))
    | with_reducible refine z_test ?_
    | with_reducible refine z_tB ?_
    | with_reducible refine z_bl ?_
    | with_reducible refine z_int ?_
    | ((with_reducible refine' z_eq ?h0 ?_); (case h0 => exact rfl))
    | ((with_reducible refine' z_ne ?h0 ?_); (case h0 => exact rfl))
    | with_reducible refine z_isN ?_
    | with_reducible refine z_notN ?_
    | with_reducible refine z_and ?_
    | with_reducible refine z_or ?_
    | with_reducible refine z_not ?_
    | with_reducible refine z_andV ?_
    | with_reducible refine z_orV ?_
    | with_reducible refine z_chain ?_
    | with_reducible refine z_tr ?_
    | ((with_reducible refine' z_truL ?h0 ?_); (case h0 => walk_at "sq"))
    | with_reducible refine z_if ?_
    | with_reducible refine z_ifS ?_
    | with_reducible refine z_ret ?_
    | with_reducible refine z_retN ?_
    | with_reducible refine z_drop ?_
    | with_reducible refine z_next ?_
    | with_reducible refine z_asg ?_
    | with_reducible refine z_gname ?_
    | with_reducible refine z_gsub ?_
    | with_reducible refine z_lst ?_
    | with_reducible refine z_tup ?_
    | with_reducible refine z_bm ?_
    | with_reducible refine z_bm0 ?_
    | ((with_reducible refine' z_tyL ?h0 ?_); (case h0 => walk_at "sq"))
    | with_reducible refine z_tyS ?_
    | ((with_reducible refine' z_app ?h0 ?h1 ?_); (case h0 => walk_at "h"); (case h1 => walk_at "sz"))
    | with_reducible refine z_sl ?_
    | with_reducible refine z_nop ?_
    | with_reducible refine z_part ?_
    | ((with_reducible refine' z_slL ?h0 ?_); (case h0 => walk_at "sq"))
    | ((with_reducible refine' z_slS ?h0 ?_); (case h0 => walk_at "sz"))
    | ((with_reducible refine' z_cat ?h0 ?h1 ?h2 ?_); (case h0 => walk_at "h"); (case h1 => walk_at "h"); (case h2 => walk_at "sz"))
    | ((with_reducible refine' z_addS ?h0 ?_); (case h0 => walk_at "sz"))
    | with_reducible refine z_un ?_
    | with_reducible refine z_rU ?_
    | with_reducible refine z_mk ?_
    | ((with_reducible refine' z_lo ?h0 ?_); (case h0 => walk_at "sq"))
    | with_reducible refine z_min ?_
    | with_reducible refine z_max ?_
    | with_reducible refine z_raise ?_
    | with_reducible refine z_try ?_
    | ((with_reducible refine' z_ord ?h0 ?_); (case h0 => assumption))
    | ((with_reducible refine' z_imp ?h0 ?_); (case h0 => walk_at "sz"))
    | with_reducible refine z_lc ?_
    | with_reducible refine z_for ?_
    | with_reducible refine z_rng1 ?_
    | with_reducible refine z_rng2 ?_
    | with_reducible refine z_rng3 ?_
    | with_reducible refine z_inStr ?_
    | with_reducible refine z_yes ?_
    | with_reducible refine z_iStr ?_
    | with_reducible refine z_iLst ?_
    | with_reducible refine z_iTup ?_
    | with_reducible refine z_str ?_
    | ((with_reducible refine' z_sqL ?h0 ?_); (case h0 => walk_at "sq"))
    | ((with_reducible refine' z_sqT ?h0 ?_); (case h0 => walk_at "sq"))
    | with_reducible refine iteT ?_
    | with_reducible refine iteF ?_
    | ((with_reducible refine' z_ifT ?h0 ?_); (case h0 => first | assumption | exact rfl))
    | ((with_reducible refine' z_ifF ?h0 ?_); (case h0 => first | assumption | exact rfl)))
local macro_rules
  | `(tactic| walk_at "z") => `(tactic| repeat walk_at "z1")

def exB (K : PySem.W.Frag) (x : Str) : Bool := He.eqO (PySem.W.findIn K (.ref (He.ga K x)) "__getattribute__") (some (some (.builtin "BaseException.__getattribute__"))) && (He.eqO (PySem.W.findIn K (.ref (He.ga K x)) "__getattr__") (some none) && (decide (PySem.W.subIn K (.ref (He.ga K x)) (.type "BaseException") = some true) && (PySem.W.hasDictIn K (He.ga K x) && (He.eqO (PySem.W.findIn K (.ref (He.ga K x)) "__class__") (some (some (.builtin "object.__class__"))) &&
  (He.eqO (PySem.W.specialIn K (.builtin "object.__class__") "__get__") (some (some (.builtin "getset_descriptor.__get__"))) && (decide (PySem.W.takesIn K (.builtin "object.__class__") = some true) && (decide (PySem.W.mroIn K (He.ga K x) (.type "object") = some true) && decide (PySem.W.kitOne K (.ref (He.ga K x)) (.type "ValueError") = some true))))))))
def kitB2 (K : PySem.W.Frag) (x y : Str) (b : Bool) : Bool := decide (PySem.W.kitOne K (.ref (He.ga K x)) (.ref (He.ga K y)) = some b)
theorem exB_ok {K : PySem.W.Frag} {x : Str} (h : exB K x = true) : ExcC K (He.ga K x) := by
  obtain ⟨h1, h⟩ := He.ba h
  obtain ⟨h2, h⟩ := He.ba h
  obtain ⟨h3, h⟩ := He.ba h
  obtain ⟨h4, h⟩ := He.ba h
  obtain ⟨h5, h⟩ := He.ba h
  obtain ⟨h6, h⟩ := He.ba h
  obtain ⟨h7, h⟩ := He.ba h
  obtain ⟨h8, _⟩ := He.ba h
  exact ⟨He.eqO_ok h1, He.eqO_ok h2, of_decide_eq_true h3, h4, He.eqO_ok h5, He.eqO_ok h6, of_decide_eq_true h7, of_decide_eq_true h8⟩
theorem exB_ve {K : PySem.W.Frag} {x : Str} (h : exB K x = true) : PySem.W.kitOne K (.ref (He.ga K x)) (.type "ValueError") = some true := by
  obtain ⟨_, h⟩ := He.ba h
  obtain ⟨_, h⟩ := He.ba h
  obtain ⟨_, h⟩ := He.ba h
  obtain ⟨_, h⟩ := He.ba h
  obtain ⟨_, h⟩ := He.ba h
  obtain ⟨_, h⟩ := He.ba h
  obtain ⟨_, h⟩ := He.ba h
  obtain ⟨_, h⟩ := He.ba h
  exact of_decide_eq_true h
/-! a look at the heap that the top leaves: the module's names, what they are, the classes' own names, all code objects -/
def isFunc (o : Obj) : Bool := match o.data with
  | .func _ => true
  | _ => false
def codeRefs (g : Addr → Option Obj) (l : List Addr) : List Addr := l.flatMap fun a => match g a with
  | some ⟨_, _, .func fd, _⟩ => He.refV fd.code
  | _ => []
def nsRefs (g : Addr → Option Obj) (l : List Addr) : List Addr := l.flatMap fun a => match g a with
  | some ⟨_, _, .cls cd, _⟩ => [cd.ns]
  | _ => []
def dictRefs (g : Addr → Option Obj) (l : List Addr) : List Addr := l.flatMap fun a => match g a with
  | some ⟨_, _, .dict es _, _⟩ => es.toList.flatMap fun e => He.refV e.val
  | _ => []
def asY (g : Addr → Option Obj) : List Addr :=
  let gl := dictRefs g [mainGlobals]
  let ns := nsRefs g gl
  let ms := dictRefs g ns
  mainGlobals :: (gl ++ (ns ++ (ms ++ (codeRefs g gl ++ codeRefs g ms))))
abbrev AlY : Type := He.AlD × Bool
def obsY (fa : List He.Fa) (fn : List He.DefD) (ex : PySem.W.Frag → Bool) (g : Addr → Option Obj) : AlY := (He.obsD fa fn (He.frG g (asY g)), ex (He.frG g (asY g)))
def valY (fn : List He.DefD) : AlY := (He.valD fn, true)
structure SaysY (fa : List He.Fa) (fn : List He.DefD) (ex : PySem.W.Frag → Bool) (K : PySem.W.Frag) : Prop where
  d : He.SaysD fa fn K
  ex : ex K = true
def hookY (fa : List He.Fa) (fn : List He.DefD) (ex : PySem.W.Frag → Bool) : PySem.W.Hook where
  α := AlY
  obs := fun s => obsY fa fn ex s.heap.get?
  val := fun _ => valY fn
  says := fun _ h => ∃ K : PySem.W.Frag, K.In h ∧ SaysY fa fn ex K
  of := fun _ _ e => ⟨_, He.frG_in, congrArg (fun z : AlY => z.1) e, congrArg (fun z : AlY => z.2) e⟩
  keeps := fun _ _ _ ⟨K, hK, c⟩ k => ⟨K, PySem.W.Frag.In.keeps hK k, c⟩
theorem obsY_eq {fa : List He.Fa} {fn : List He.DefD} {ex : PySem.W.Frag → Bool} {g : Addr → Option Obj} {s : Shared} (h : ∀ a, g a = s.heap.get? a) : obsY fa fn ex g = (hookY fa fn ex).obs s := by
  have e : g = s.heap.get? := funext h
  rw [e] <;> rfl
theorem map_two {α β γ : Type} {x : Option α} {f : α → β} {g : α → γ} {a : β} {b : γ} (h1 : x.map f = some a) (h2 : x.map g = some b) : x.map (fun s => (f s, g s)) = some (a, b) := by
  cases x with
  | none => cases h1
  | some s => rw [Option.map_some] at h1 h2 ⊢; rw [Option.some.inj h1, Option.some.inj h2]
/-! the text by places -/
def top (i : Nat) : Stmt := PySem.Challenge.pw_linehand_k30_whole_histories.main.body.getD i (.Pass ⟨0, 0, 0, 0⟩)
abbrev s_is_sign : Stmt := top 8
abbrev s_look_text : Stmt := top 9
abbrev s_History_init : Stmt := inClass (top 12) 0
abbrev s_History_add : Stmt := inClass (top 12) 1
abbrev s_History_all_lines : Stmt := inClass (top 12) 2
abbrev s_History_here : Stmt := inClass (top 12) 3
abbrev s_History_many : Stmt := inClass (top 12) 4
abbrev s_History_keep : Stmt := inClass (top 12) 5
abbrev s_History_go : Stmt := inClass (top 12) 6
abbrev s_History_find : Stmt := inClass (top 12) 7
abbrev s__law_cell : Stmt := top 14
abbrev s__law_mix : Stmt := top 15
abbrev s__law_draw : Stmt := top 16
abbrev s__law_pick : Stmt := top 17
abbrev s__law_refusal : Stmt := top 18
abbrev s__law_told : Stmt := top 19
abbrev s__law_bad : Stmt := top 20
abbrev s_law : Stmt := top 21
def d_is_sign : He.DefD := ⟨("is_sign", none), "is_sign", "is_sign", defArgs s_is_sign, defBody s_is_sign, defScope s_is_sign, [], []⟩
def d_look_text : He.DefD := ⟨("look_text", none), "look_text", "look_text", defArgs s_look_text, defBody s_look_text, defScope s_look_text, [], []⟩
def d_History_init : He.DefD := ⟨("History", some "__init__"), "__init__", "History.__init__", defArgs s_History_init, defBody s_History_init, defScope s_History_init, [], []⟩
def d_History_add : He.DefD := ⟨("History", some "add"), "add", "History.add", defArgs s_History_add, defBody s_History_add, defScope s_History_add, [], []⟩
def d_History_all_lines : He.DefD := ⟨("History", some "all_lines"), "all_lines", "History.all_lines", defArgs s_History_all_lines, defBody s_History_all_lines, defScope s_History_all_lines, [], []⟩
def d_History_here : He.DefD := ⟨("History", some "here"), "here", "History.here", defArgs s_History_here, defBody s_History_here, defScope s_History_here, [], []⟩
def d_History_many : He.DefD := ⟨("History", some "many"), "many", "History.many", defArgs s_History_many, defBody s_History_many, defScope s_History_many, [], []⟩
def d_History_keep : He.DefD := ⟨("History", some "keep"), "keep", "History.keep", defArgs s_History_keep, defBody s_History_keep, defScope s_History_keep, [], []⟩
def d_History_go : He.DefD := ⟨("History", some "go"), "go", "History.go", defArgs s_History_go, defBody s_History_go, defScope s_History_go, [], []⟩
def d_History_find : He.DefD := ⟨("History", some "find"), "find", "History.find", defArgs s_History_find, defBody s_History_find, defScope s_History_find, [], []⟩
def d__law_cell : He.DefD := ⟨("_law_cell", none), "_law_cell", "_law_cell", defArgs s__law_cell, defBody s__law_cell, defScope s__law_cell, [], []⟩
def d__law_mix : He.DefD := ⟨("_law_mix", none), "_law_mix", "_law_mix", defArgs s__law_mix, defBody s__law_mix, defScope s__law_mix, [], []⟩
def d__law_draw : He.DefD := ⟨("_law_draw", none), "_law_draw", "_law_draw", defArgs s__law_draw, defBody s__law_draw, defScope s__law_draw, [], []⟩
def d__law_pick : He.DefD := ⟨("_law_pick", none), "_law_pick", "_law_pick", defArgs s__law_pick, defBody s__law_pick, defScope s__law_pick, [], []⟩
def d__law_refusal : He.DefD := ⟨("_law_refusal", none), "_law_refusal", "_law_refusal", defArgs s__law_refusal, defBody s__law_refusal, defScope s__law_refusal, [], []⟩
def d__law_told : He.DefD := ⟨("_law_told", none), "_law_told", "_law_told", defArgs s__law_told, defBody s__law_told, defScope s__law_told, [], []⟩
def d__law_bad : He.DefD := ⟨("_law_bad", none), "_law_bad", "_law_bad", defArgs s__law_bad, defBody s__law_bad, defScope s__law_bad, [], []⟩
def d_law : He.DefD := ⟨("law", none), "law", "law", defArgs s_law, defBody s_law, defScope s_law, [], []⟩
def fn : List He.DefD := [d_is_sign, d_look_text, d_History_init, d_History_add, d_History_all_lines, d_History_here, d_History_many, d_History_keep, d_History_go, d_History_find, d__law_cell, d__law_mix, d__law_draw, d__law_pick, d__law_refusal, d__law_told, d__law_bad, d_law]
def fa0 : List He.Fa := [.glo "is_sign", .glo "look_text", .glo "_law_cell", .glo "_law_mix", .glo "_law_draw", .glo "_law_pick", .glo "_law_refusal", .glo "_law_told", .glo "_law_bad", .glo "law", .glo "HandError", .exc "HandError", .exm "HandError" "HandError" true, .glo "BadKey", .exc "BadKey", .exm "BadKey" "HandError" true, .glo "BadText", .exc "BadText", .exm "BadText" "HandError" true, .glo "BadSize", .exc "BadSize", .exm "BadSize" "HandError" true, .glo "BadPlace", .exc "BadPlace", .exm "BadPlace" "HandError" true, .glo "History", .cls "History", .mkr "History", .noat "History" "most", .noat "History" "kept"]
def fa1 : List He.Fa := [.noat "History" "shown", .noat "History" "spot", .meth "History" "add", .meth "History" "all_lines", .meth "History" "here", .meth "History" "many", .meth "History" "keep", .meth "History" "go", .meth "History" "find", .int "MOST_TEXT" 400, .int "MOST_LINES" 200, .free "ValueError", .free "all", .free "isinstance", .free "len", .free "list", .free "min", .free "ord", .free "range", .free "str"]
def fa : List He.Fa := fa0 ++ fa1
def ex (K : PySem.W.Frag) : Bool := (exB K "BadKey") && (kitB2 K "BadKey" "BadKey" true) && (kitB2 K "BadKey" "BadText" false) && (kitB2 K "BadKey" "BadSize" false) && (kitB2 K "BadKey" "BadPlace" false) && (exB K "BadText") && (kitB2 K "BadText" "BadKey" false) && (kitB2 K "BadText" "BadText" true) && (kitB2 K "BadText" "BadSize" false) && (kitB2 K "BadText" "BadPlace" false) && (exB K "BadSize") && (kitB2 K "BadSize" "BadKey" false) && (kitB2 K "BadSize" "BadText" false) && (kitB2 K "BadSize" "BadSize" true) && (kitB2 K "BadSize" "BadPlace" false) && (exB K "BadPlace") && (kitB2 K "BadPlace" "BadKey" false) && (kitB2 K "BadPlace" "BadText" false) && (kitB2 K "BadPlace" "BadSize" false) && (kitB2 K "BadPlace" "BadPlace" true)
structure Tx (K : PySem.W.Frag) (mg : Str → Option Value) : Prop where
  c : SaysY fa fn ex K
  g : ∃ h : Heap, K.In h ∧ h.Ns mainGlobals mg
section
variable {K : PySem.W.Frag} {mg : Str → Option Value}
theorem Tx.g_is_sign (T : Tx K mg) : mg "is_sign" = some (.ref (He.ga K "is_sign")) := let ⟨_, X, G⟩ := T.g; He.glo_ok X G (T.c.d.fact 0 rfl)
theorem Tx.g_look_text (T : Tx K mg) : mg "look_text" = some (.ref (He.ga K "look_text")) := let ⟨_, X, G⟩ := T.g; He.glo_ok X G (T.c.d.fact 1 rfl)
theorem Tx.g__law_cell (T : Tx K mg) : mg "_law_cell" = some (.ref (He.ga K "_law_cell")) := let ⟨_, X, G⟩ := T.g; He.glo_ok X G (T.c.d.fact 2 rfl)
theorem Tx.g__law_mix (T : Tx K mg) : mg "_law_mix" = some (.ref (He.ga K "_law_mix")) := let ⟨_, X, G⟩ := T.g; He.glo_ok X G (T.c.d.fact 3 rfl)
theorem Tx.g__law_draw (T : Tx K mg) : mg "_law_draw" = some (.ref (He.ga K "_law_draw")) := let ⟨_, X, G⟩ := T.g; He.glo_ok X G (T.c.d.fact 4 rfl)
theorem Tx.g__law_pick (T : Tx K mg) : mg "_law_pick" = some (.ref (He.ga K "_law_pick")) := let ⟨_, X, G⟩ := T.g; He.glo_ok X G (T.c.d.fact 5 rfl)
theorem Tx.g__law_refusal (T : Tx K mg) : mg "_law_refusal" = some (.ref (He.ga K "_law_refusal")) := let ⟨_, X, G⟩ := T.g; He.glo_ok X G (T.c.d.fact 6 rfl)
theorem Tx.g__law_told (T : Tx K mg) : mg "_law_told" = some (.ref (He.ga K "_law_told")) := let ⟨_, X, G⟩ := T.g; He.glo_ok X G (T.c.d.fact 7 rfl)
theorem Tx.g__law_bad (T : Tx K mg) : mg "_law_bad" = some (.ref (He.ga K "_law_bad")) := let ⟨_, X, G⟩ := T.g; He.glo_ok X G (T.c.d.fact 8 rfl)
theorem Tx.g_law (T : Tx K mg) : mg "law" = some (.ref (He.ga K "law")) := let ⟨_, X, G⟩ := T.g; He.glo_ok X G (T.c.d.fact 9 rfl)
theorem Tx.g_HandError (T : Tx K mg) : mg "HandError" = some (.ref (He.ga K "HandError")) := let ⟨_, X, G⟩ := T.g; He.glo_ok X G (T.c.d.fact 10 rfl)
theorem Tx.x_HandError (T : Tx K mg) : Xc K (He.ga K "HandError") := He.exc_ok (K := K) (x := "HandError") (T.c.d.fact 11 rfl)
theorem Tx.e_HandError (T : Tx K mg) : PySem.W.exmOne K (.ref (He.ga K "HandError")) (.ref (He.ga K "HandError")) = some true := He.exm_ok (T.c.d.fact 12 rfl)
theorem Tx.g_BadKey (T : Tx K mg) : mg "BadKey" = some (.ref (He.ga K "BadKey")) := let ⟨_, X, G⟩ := T.g; He.glo_ok X G (T.c.d.fact 13 rfl)
theorem Tx.x_BadKey (T : Tx K mg) : Xc K (He.ga K "BadKey") := He.exc_ok (K := K) (x := "BadKey") (T.c.d.fact 14 rfl)
theorem Tx.e_BadKey (T : Tx K mg) : PySem.W.exmOne K (.ref (He.ga K "BadKey")) (.ref (He.ga K "HandError")) = some true := He.exm_ok (T.c.d.fact 15 rfl)
theorem Tx.g_BadText (T : Tx K mg) : mg "BadText" = some (.ref (He.ga K "BadText")) := let ⟨_, X, G⟩ := T.g; He.glo_ok X G (T.c.d.fact 16 rfl)
theorem Tx.x_BadText (T : Tx K mg) : Xc K (He.ga K "BadText") := He.exc_ok (K := K) (x := "BadText") (T.c.d.fact 17 rfl)
theorem Tx.e_BadText (T : Tx K mg) : PySem.W.exmOne K (.ref (He.ga K "BadText")) (.ref (He.ga K "HandError")) = some true := He.exm_ok (T.c.d.fact 18 rfl)
theorem Tx.g_BadSize (T : Tx K mg) : mg "BadSize" = some (.ref (He.ga K "BadSize")) := let ⟨_, X, G⟩ := T.g; He.glo_ok X G (T.c.d.fact 19 rfl)
theorem Tx.x_BadSize (T : Tx K mg) : Xc K (He.ga K "BadSize") := He.exc_ok (K := K) (x := "BadSize") (T.c.d.fact 20 rfl)
theorem Tx.e_BadSize (T : Tx K mg) : PySem.W.exmOne K (.ref (He.ga K "BadSize")) (.ref (He.ga K "HandError")) = some true := He.exm_ok (T.c.d.fact 21 rfl)
theorem Tx.g_BadPlace (T : Tx K mg) : mg "BadPlace" = some (.ref (He.ga K "BadPlace")) := let ⟨_, X, G⟩ := T.g; He.glo_ok X G (T.c.d.fact 22 rfl)
theorem Tx.x_BadPlace (T : Tx K mg) : Xc K (He.ga K "BadPlace") := He.exc_ok (K := K) (x := "BadPlace") (T.c.d.fact 23 rfl)
theorem Tx.e_BadPlace (T : Tx K mg) : PySem.W.exmOne K (.ref (He.ga K "BadPlace")) (.ref (He.ga K "HandError")) = some true := He.exm_ok (T.c.d.fact 24 rfl)
theorem Tx.g_History (T : Tx K mg) : mg "History" = some (.ref (He.ga K "History")) := let ⟨_, X, G⟩ := T.g; He.glo_ok X G (T.c.d.fact 25 rfl)
theorem Tx.cl_History (T : Tx K mg) : Cls K (He.ga K "History") := He.cls_ok (T.c.d.fact 26 rfl)
theorem Tx.mr_History (T : Tx K mg) : Mk K (He.ga K "History") (He.ma K (He.ga K "History") "__init__") := He.mkr_ok (T.c.d.fact 27 rfl)
theorem Tx.na_History_most (T : Tx K mg) : NoAttr K (He.ga K "History") "most" := He.noat_ok (T.c.d.fact 28 rfl)
theorem Tx.na_History_kept (T : Tx K mg) : NoAttr K (He.ga K "History") "kept" := He.noat_ok (T.c.d.fact 29 rfl)
theorem Tx.na_History_shown (T : Tx K mg) : NoAttr K (He.ga K "History") "shown" := He.noat_ok (T.c.d.fact 30 rfl)
theorem Tx.na_History_spot (T : Tx K mg) : NoAttr K (He.ga K "History") "spot" := He.noat_ok (T.c.d.fact 31 rfl)
theorem Tx.me_History_add (T : Tx K mg) : Meth K (He.ga K "History") "add" (He.ma K (He.ga K "History") "add") := He.meth_ok (T.c.d.fact 32 rfl)
theorem Tx.me_History_all_lines (T : Tx K mg) : Meth K (He.ga K "History") "all_lines" (He.ma K (He.ga K "History") "all_lines") := He.meth_ok (T.c.d.fact 33 rfl)
theorem Tx.me_History_here (T : Tx K mg) : Meth K (He.ga K "History") "here" (He.ma K (He.ga K "History") "here") := He.meth_ok (T.c.d.fact 34 rfl)
theorem Tx.me_History_many (T : Tx K mg) : Meth K (He.ga K "History") "many" (He.ma K (He.ga K "History") "many") := He.meth_ok (T.c.d.fact 35 rfl)
theorem Tx.me_History_keep (T : Tx K mg) : Meth K (He.ga K "History") "keep" (He.ma K (He.ga K "History") "keep") := He.meth_ok (T.c.d.fact 36 rfl)
theorem Tx.me_History_go (T : Tx K mg) : Meth K (He.ga K "History") "go" (He.ma K (He.ga K "History") "go") := He.meth_ok (T.c.d.fact 37 rfl)
theorem Tx.me_History_find (T : Tx K mg) : Meth K (He.ga K "History") "find" (He.ma K (He.ga K "History") "find") := He.meth_ok (T.c.d.fact 38 rfl)
theorem Tx.c_MOST_TEXT (T : Tx K mg) : ∃ u, mg "MOST_TEXT" = some u ∧ RelV (.int 400) u := let ⟨_, X, G⟩ := T.g; let ⟨t, e⟩ := He.int_ok X G (T.c.d.fact 39 rfl); ⟨_, e, t, rfl⟩
theorem Tx.c_MOST_LINES (T : Tx K mg) : ∃ u, mg "MOST_LINES" = some u ∧ RelV (.int 200) u := let ⟨_, X, G⟩ := T.g; let ⟨t, e⟩ := He.int_ok X G (T.c.d.fact 40 rfl); ⟨_, e, t, rfl⟩
theorem Tx.n_ValueError (T : Tx K mg) : mg "ValueError" = none := let ⟨_, X, G⟩ := T.g; He.free_ok X G (T.c.d.fact 41 rfl)
theorem Tx.n_all (T : Tx K mg) : mg "all" = none := let ⟨_, X, G⟩ := T.g; He.free_ok X G (T.c.d.fact 42 rfl)
theorem Tx.n_isinstance (T : Tx K mg) : mg "isinstance" = none := let ⟨_, X, G⟩ := T.g; He.free_ok X G (T.c.d.fact 43 rfl)
theorem Tx.n_len (T : Tx K mg) : mg "len" = none := let ⟨_, X, G⟩ := T.g; He.free_ok X G (T.c.d.fact 44 rfl)
theorem Tx.n_list (T : Tx K mg) : mg "list" = none := let ⟨_, X, G⟩ := T.g; He.free_ok X G (T.c.d.fact 45 rfl)
theorem Tx.n_min (T : Tx K mg) : mg "min" = none := let ⟨_, X, G⟩ := T.g; He.free_ok X G (T.c.d.fact 46 rfl)
theorem Tx.n_ord (T : Tx K mg) : mg "ord" = none := let ⟨_, X, G⟩ := T.g; He.free_ok X G (T.c.d.fact 47 rfl)
theorem Tx.n_range (T : Tx K mg) : mg "range" = none := let ⟨_, X, G⟩ := T.g; He.free_ok X G (T.c.d.fact 48 rfl)
theorem Tx.n_str (T : Tx K mg) : mg "str" = none := let ⟨_, X, G⟩ := T.g; He.free_ok X G (T.c.d.fact 49 rfl)
theorem Tx.q_BadKey (T : Tx K mg) : exB K "BadKey" = true := (He.ba (He.ba (He.ba (He.ba (He.ba (He.ba (He.ba (He.ba (He.ba (He.ba (He.ba (He.ba (He.ba (He.ba (He.ba (He.ba (He.ba (He.ba (He.ba T.c.ex).1).1).1).1).1).1).1).1).1).1).1).1).1).1).1).1).1).1).1
theorem Tx.k_BadKey_BadKey (T : Tx K mg) : PySem.W.kitOne K (.ref (He.ga K "BadKey")) (.ref (He.ga K "BadKey")) = some true := of_decide_eq_true (He.ba (He.ba (He.ba (He.ba (He.ba (He.ba (He.ba (He.ba (He.ba (He.ba (He.ba (He.ba (He.ba (He.ba (He.ba (He.ba (He.ba (He.ba (He.ba T.c.ex).1).1).1).1).1).1).1).1).1).1).1).1).1).1).1).1).1).1).2
theorem Tx.k_BadKey_BadText (T : Tx K mg) : PySem.W.kitOne K (.ref (He.ga K "BadKey")) (.ref (He.ga K "BadText")) = some false := of_decide_eq_true (He.ba (He.ba (He.ba (He.ba (He.ba (He.ba (He.ba (He.ba (He.ba (He.ba (He.ba (He.ba (He.ba (He.ba (He.ba (He.ba (He.ba (He.ba T.c.ex).1).1).1).1).1).1).1).1).1).1).1).1).1).1).1).1).1).2
theorem Tx.k_BadKey_BadSize (T : Tx K mg) : PySem.W.kitOne K (.ref (He.ga K "BadKey")) (.ref (He.ga K "BadSize")) = some false := of_decide_eq_true (He.ba (He.ba (He.ba (He.ba (He.ba (He.ba (He.ba (He.ba (He.ba (He.ba (He.ba (He.ba (He.ba (He.ba (He.ba (He.ba (He.ba T.c.ex).1).1).1).1).1).1).1).1).1).1).1).1).1).1).1).1).2
theorem Tx.k_BadKey_BadPlace (T : Tx K mg) : PySem.W.kitOne K (.ref (He.ga K "BadKey")) (.ref (He.ga K "BadPlace")) = some false := of_decide_eq_true (He.ba (He.ba (He.ba (He.ba (He.ba (He.ba (He.ba (He.ba (He.ba (He.ba (He.ba (He.ba (He.ba (He.ba (He.ba (He.ba T.c.ex).1).1).1).1).1).1).1).1).1).1).1).1).1).1).1).2
theorem Tx.q_BadText (T : Tx K mg) : exB K "BadText" = true := (He.ba (He.ba (He.ba (He.ba (He.ba (He.ba (He.ba (He.ba (He.ba (He.ba (He.ba (He.ba (He.ba (He.ba (He.ba T.c.ex).1).1).1).1).1).1).1).1).1).1).1).1).1).1).2
theorem Tx.k_BadText_BadKey (T : Tx K mg) : PySem.W.kitOne K (.ref (He.ga K "BadText")) (.ref (He.ga K "BadKey")) = some false := of_decide_eq_true (He.ba (He.ba (He.ba (He.ba (He.ba (He.ba (He.ba (He.ba (He.ba (He.ba (He.ba (He.ba (He.ba (He.ba T.c.ex).1).1).1).1).1).1).1).1).1).1).1).1).1).2
theorem Tx.k_BadText_BadText (T : Tx K mg) : PySem.W.kitOne K (.ref (He.ga K "BadText")) (.ref (He.ga K "BadText")) = some true := of_decide_eq_true (He.ba (He.ba (He.ba (He.ba (He.ba (He.ba (He.ba (He.ba (He.ba (He.ba (He.ba (He.ba (He.ba T.c.ex).1).1).1).1).1).1).1).1).1).1).1).1).2
theorem Tx.k_BadText_BadSize (T : Tx K mg) : PySem.W.kitOne K (.ref (He.ga K "BadText")) (.ref (He.ga K "BadSize")) = some false := of_decide_eq_true (He.ba (He.ba (He.ba (He.ba (He.ba (He.ba (He.ba (He.ba (He.ba (He.ba (He.ba (He.ba T.c.ex).1).1).1).1).1).1).1).1).1).1).1).2
theorem Tx.k_BadText_BadPlace (T : Tx K mg) : PySem.W.kitOne K (.ref (He.ga K "BadText")) (.ref (He.ga K "BadPlace")) = some false := of_decide_eq_true (He.ba (He.ba (He.ba (He.ba (He.ba (He.ba (He.ba (He.ba (He.ba (He.ba (He.ba T.c.ex).1).1).1).1).1).1).1).1).1).1).2
theorem Tx.q_BadSize (T : Tx K mg) : exB K "BadSize" = true := (He.ba (He.ba (He.ba (He.ba (He.ba (He.ba (He.ba (He.ba (He.ba (He.ba T.c.ex).1).1).1).1).1).1).1).1).1).2
theorem Tx.k_BadSize_BadKey (T : Tx K mg) : PySem.W.kitOne K (.ref (He.ga K "BadSize")) (.ref (He.ga K "BadKey")) = some false := of_decide_eq_true (He.ba (He.ba (He.ba (He.ba (He.ba (He.ba (He.ba (He.ba (He.ba T.c.ex).1).1).1).1).1).1).1).1).2
theorem Tx.k_BadSize_BadText (T : Tx K mg) : PySem.W.kitOne K (.ref (He.ga K "BadSize")) (.ref (He.ga K "BadText")) = some false := of_decide_eq_true (He.ba (He.ba (He.ba (He.ba (He.ba (He.ba (He.ba (He.ba T.c.ex).1).1).1).1).1).1).1).2
theorem Tx.k_BadSize_BadSize (T : Tx K mg) : PySem.W.kitOne K (.ref (He.ga K "BadSize")) (.ref (He.ga K "BadSize")) = some true := of_decide_eq_true (He.ba (He.ba (He.ba (He.ba (He.ba (He.ba (He.ba T.c.ex).1).1).1).1).1).1).2
theorem Tx.k_BadSize_BadPlace (T : Tx K mg) : PySem.W.kitOne K (.ref (He.ga K "BadSize")) (.ref (He.ga K "BadPlace")) = some false := of_decide_eq_true (He.ba (He.ba (He.ba (He.ba (He.ba (He.ba T.c.ex).1).1).1).1).1).2
theorem Tx.q_BadPlace (T : Tx K mg) : exB K "BadPlace" = true := (He.ba (He.ba (He.ba (He.ba (He.ba T.c.ex).1).1).1).1).2
theorem Tx.k_BadPlace_BadKey (T : Tx K mg) : PySem.W.kitOne K (.ref (He.ga K "BadPlace")) (.ref (He.ga K "BadKey")) = some false := of_decide_eq_true (He.ba (He.ba (He.ba (He.ba T.c.ex).1).1).1).2
theorem Tx.k_BadPlace_BadText (T : Tx K mg) : PySem.W.kitOne K (.ref (He.ga K "BadPlace")) (.ref (He.ga K "BadText")) = some false := of_decide_eq_true (He.ba (He.ba (He.ba T.c.ex).1).1).2
theorem Tx.k_BadPlace_BadSize (T : Tx K mg) : PySem.W.kitOne K (.ref (He.ga K "BadPlace")) (.ref (He.ga K "BadSize")) = some false := of_decide_eq_true (He.ba (He.ba T.c.ex).1).2
theorem Tx.k_BadPlace_BadPlace (T : Tx K mg) : PySem.W.kitOne K (.ref (He.ga K "BadPlace")) (.ref (He.ga K "BadPlace")) = some true := of_decide_eq_true (He.ba T.c.ex).2
theorem Tx.ex_BadKey (T : Tx K mg) : ExcC K (He.ga K "BadKey") := exB_ok T.q_BadKey
theorem Tx.kv_BadKey (T : Tx K mg) : PySem.W.kitOne K (.ref (He.ga K "BadKey")) (.type "ValueError") = some true := exB_ve T.q_BadKey
theorem Tx.ex_BadText (T : Tx K mg) : ExcC K (He.ga K "BadText") := exB_ok T.q_BadText
theorem Tx.kv_BadText (T : Tx K mg) : PySem.W.kitOne K (.ref (He.ga K "BadText")) (.type "ValueError") = some true := exB_ve T.q_BadText
theorem Tx.ex_BadSize (T : Tx K mg) : ExcC K (He.ga K "BadSize") := exB_ok T.q_BadSize
theorem Tx.kv_BadSize (T : Tx K mg) : PySem.W.kitOne K (.ref (He.ga K "BadSize")) (.type "ValueError") = some true := exB_ve T.q_BadSize
theorem Tx.ex_BadPlace (T : Tx K mg) : ExcC K (He.ga K "BadPlace") := exB_ok T.q_BadPlace
theorem Tx.kv_BadPlace (T : Tx K mg) : PySem.W.kitOne K (.ref (He.ga K "BadPlace")) (.type "ValueError") = some true := exB_ve T.q_BadPlace
end

theorem sc_is_sign : FnScope ["sign"] ["sign"] (defScope s_is_sign) := ⟨rfl, rfl, rfl, by decide +kernel, rfl, by decide +kernel, by decide +kernel⟩
section
variable {P : Program} {w : World} {K : PySem.W.Frag} {mg : Str → Option Value} {base : Heap}
/-- whether a sign may stand in a line, by its code -/
def okc (c : Nat) : Bool := decide (32 ≤ c) && (decide (c < 127) && !decide (c = 37))
theorem okc_lt {c : Nat} (h : okc c = true) : c < 128 := by
  unfold okc at h
  simp at h; omega
def isSign (s : Str) : Bool := match tl s with
  | [c] => okc c
  | _ => false
def sp_is_sign : Sp := fun vs H Q _ => ∃ s : Str, vs = [.str s] ∧ s.length ≤ sizeLine ∧ Q (.bl (isSign s)) H
theorem f_is_sign (T : Tx K mg) : Fn P w K mg base "is_sign" 1 ["sign"] sp_is_sign := by
  obtain ⟨fd, F⟩ := T.c.d.def_ 0 (d := d_is_sign) rfl
  refine ⟨_, fd, F.ok (CX := L2.CX P w) sc_is_sign (fun vs H Q E h => ?len) (fun cdv A outer s H vs Q E hr h => ?body), T.g_is_sign, F.kp, F.bindsN fun _ _ _ _ _ _ us hl => match us, hl with | [_], _ => rfl, FunD.bindsA F fun _ _ _ _ _ _ us hl => match us, hl with | [_], _ => rfl⟩
  case len => obtain ⟨x, rfl, hx, k⟩ := h; rfl
  case body =>
    obtain ⟨x, rfl, hx, k⟩ := h
    refine ⟨_, (pss_one (ps_ret (pe_and (pe_cmpR op_eq (pe_callB (call_lnK (K := K) rfl) rfl T.n_len boot_len (pa_cons (pv 0) pa_nil)) pe_int (nomark _)) (pe_and (pe_chain op_le op_lt pe_int (pe_callB call_or rfl T.n_ord (by decide +kernel) (pa_cons (pv 0) pa_nil)) pe_int) (pe_one (pe_cmpR op_ne (pe_callB call_or rfl T.n_ord (by decide +kernel) (pa_cons (pv 0) pa_nil)) pe_int (nomark _))))))), ?_⟩
    walk_at "z"
    refine ite_b (fun h1 => ?_) (fun h1 => ?_)
    · have hl : x.length = 1 := by
        have := of_decide_eq_true h1
        simp at this; omega
      have hl2 : (tl x).length = 1 := by rw [← len_tl]; exact hl
      obtain ⟨c, hc⟩ := List.length_eq_one_iff.mp hl2
      have e : x.cps.getD 0 0 = c := by
        have : x.cps = #[c] := by rw [← Array.toList_inj]; exact hc
        rw [this]; rfl
      have es : isSign x = okc c := by unfold isSign; rw [hc]
      walk_at "z"
      rw [e]
      refine ite_b (fun h2 => ?_) (fun h2 => ?_)
      · have h2' := of_decide_eq_true h2
        walk_at "z"
        refine ite_b (fun h3 => ?_) (fun h3 => ?_)
        · have h3' := of_decide_eq_true h3
          walk_at "z"
          have q : isSign x = !decide (V.int ↑(x.cps.getD 0 0) = V.int 37) := by
            have a1 : 32 ≤ c := by omega
            have a2 : c < 127 := by omega
            rw [es, e]; simp [okc, a1, a2]; omega
          rw [q] at k; exact k
        · have h3' := of_decide_eq_false h3
          have q : isSign x = false := by rw [es]; simp [okc]; omega
          rw [q] at k; exact k
      · have h2' := of_decide_eq_false h2
        walk_at "z"
        have q : isSign x = false := by rw [es]; simp [okc]; omega
        rw [q] at k; exact k
    · have hl : ¬ x.length = 1 := by
        intro hl
        have := of_decide_eq_false h1
        apply this; rw [hl]; rfl
      have e : isSign x = false := by
        unfold isSign
        split
        · rename_i c hc
          exact absurd (by rw [len_tl, hc]; rfl) hl
        · rfl
      rw [e] at k
      exact k
end

theorem sc_look_text : FnScope ["text", "sign"] ["text"] (defScope s_look_text) := ⟨rfl, rfl, rfl, by decide +kernel, rfl, by decide +kernel, by decide +kernel⟩
section
variable {P : Program} {w : World} {K : PySem.W.Frag} {mg : Str → Option Value} {base : Heap}
/-- a line's text: its signs may stand there -/
def okText (s : Str) : Bool := decide (s.length ≤ 400) && (tl s).all okc
theorem plain_ok {x : Str} (h : okText x = true) : plainS x = true := by
  unfold okText at h
  rw [Bool.and_eq_true] at h
  unfold plainS
  rw [List.all_eq_true]
  exact fun c hc => decide_eq_true (okc_lt (List.all_eq_true.mp h.2 c hc))
def sp_look_text (K : PySem.W.Frag) : Sp := fun vs H Q E => ∃ s : Str, vs = [.str s] ∧ s.length < sizeLine ∧ (okText s = true → ∀ H', Same H H' → Q .non H') ∧ (okText s = false → ∀ H', Same H H' → E (.ref (He.ga K "BadText")) none H')
theorem f_look_text (T : Tx K mg) : Fn P w K mg base "look_text" 2 ["text"] (sp_look_text K) := by
  obtain ⟨fd, F⟩ := T.c.d.def_ 1 (d := d_look_text) rfl
  refine ⟨_, fd, F.ok (CX := L2.CX P w) sc_look_text (fun vs H Q E h => ?len) (fun cdv A outer s H vs Q E hr h => ?body), T.g_look_text, F.kp, F.bindsN fun _ _ _ _ _ _ us hl => match us, hl with | [_], _ => rfl, FunD.bindsA F fun _ _ _ _ _ _ us hl => match us, hl with | [_], _ => rfl⟩
  case len => obtain ⟨x, rfl, hx, k1, k2⟩ := h; rfl
  case body =>
    obtain ⟨x, rfl, hx, k1, k2⟩ := h
    refine ⟨_, (pss_one (ps_if (PW.pt (pw_or (pt_cmpR op_gt (pe_callB (call_lnK (K := K) rfl) rfl T.n_len boot_len (pa_cons (pv 0) pa_nil)) (pe_gcon T.c_MOST_TEXT) (nomark _)) (pw_or1 (pt_not (pt_val (pe_callB (cr_allK (K := K) rfl rfl) rfl T.n_all (by decide +kernel) (pa_cons (pe_lc (own := [("sign", 1)]) rfl sc_look_text.nd (pi_str (pv 0)) (blkOk_by (N := ["text", "sign"]) (sc := defScope s_look_text) (by decide +kernel)) (fun _ _ _ _ _ => (pg_name (i := 1) sc_look_text.nd rfl (Or.inl rfl))) (fun _ _ _ _ _ => pts_nil) (fun _ _ _ _ _ => (pe_fn (f_is_sign T) (hr.mono (by decide)) takes0 (pa_cons (pv 1) pa_nil)))) pa_nil))))))) (pss_one (ps_rs rfl tkOf T.x_BadText T.g_BadText)) pss_nil)), ?_⟩
    have hx' : x.length ≤ sizeLine := Nat.le_of_lt hx
    walk_at "z"
    refine ite_b (fun h1 => ?_) (fun h1 => ?_)
    · have h1' := of_decide_eq_true h1
      walk_at "z"
      refine k2 ?_ _ (Same.refl _)
      unfold okText
      rw [decide_eq_false (by omega)]; rfl
    · have h1' := of_decide_eq_false h1
      walk_at "z"
      intro D hD
      refine lc_strP (fun c => .bl (okc c)) hx (fun _ => rfl) hD (fun c H2 Q2 hs k => ?_) ?_
      · walk_at "z"
        exact ⟨_, rfl, by show 1 ≤ sizeLine; decide, k⟩
      · have hs : Same H (upd H D (.lst ((tl x).map fun c => V.bl (okc c)))) := fun b o e => by rw [upd_ne (ne_of_none e hD)]; exact e
        walk_at "z"
        refine z_all ((tl x).map okc) (by rw [List.map_map]; exact SqL.of upd_same) ?_
        walk_at "z"
        have e : okText x = ((tl x).map okc).all id := by
          unfold okText
          rw [decide_eq_true (by omega), Bool.true_and, List.all_map]; rfl
        refine ite_b (fun h2 => ?_) (fun h2 => ?_)
        · walk_at "z"
          exact k2 (by rw [e]; simpa using h2) _ hs
        · walk_at "z"
          exact k1 (by rw [e]; simpa using h2) _ hs
end

theorem sc_History_init : FnScope ["self", "most"] ["self", "most"] (defScope s_History_init) := ⟨rfl, rfl, rfl, by decide +kernel, rfl, by decide +kernel, by decide +kernel⟩
section
variable {P : Program} {w : World} {K : PySem.W.Frag} {mg : Str → Option Value} {base : Heap}
def sp_History_init (K : PySem.W.Frag) : Sp := fun vs H Q E => ∃ (p dx : Addr) (m : Int), vs = [.ref p, .int m] ∧ H p = some (.ins (He.ga K "History") dx []) ∧
  (1 ≤ m → m ≤ 200 → ∀ H' lk ls, H lk = none → H ls = none → HistAt K H' p lk ls m [] [""] 0 → Fr [p] H H' → Q .non H') ∧
  (¬ (1 ≤ m ∧ m ≤ 200) → E (.ref (He.ga K "BadSize")) none H)
theorem mk_History (T : Tx K mg) : Mkr P w K mg base "History" (He.ga K "History") 1 ["self", "most"] (sp_History_init K) := by
  obtain ⟨fd, F⟩ := T.c.d.def_ 2 (d := d_History_init) rfl
  refine ⟨_, fd, F.ok (CX := L2.CX P w) sc_History_init (fun vs H Q E h => ?len) (fun cdv A outer s H vs Q E hr h => ?body), T.mr_History, T.g_History, F.bindsN fun _ _ _ _ _ _ us hl => match us, hl with | [_, _], _ => rfl⟩
  case len => obtain ⟨p, dx, m, rfl, hp, k1, k2⟩ := h; rfl
  case body =>
    obtain ⟨p, dx, m, rfl, hp, k1, k2⟩ := h
    refine ⟨_, (pss_cons (ps_if (pt_not (pt_chain op_le op_le pe_int (pv 1) (pe_gcon T.c_MOST_LINES))) (pss_one (ps_rs rfl tkOf T.x_BadSize T.g_BadSize)) pss_nil)
      (pss_cons (ps_put T.cl_History T.na_History_most (pv 0) (pv 1))
      (pss_cons (ps_put T.cl_History T.na_History_kept (pv 0) (pe_lst pa_nil))
      (pss_cons (ps_put T.cl_History T.na_History_shown (pv 0) (pe_lst (pa_cons pe_str pa_nil)))
      (pss_one (ps_put T.cl_History T.na_History_spot (pv 0) pe_int)))))), ?_⟩
    walk_at "z"
    refine ite_b (fun h1 => ?_) (fun h1 => ?_)
    · have h1' := of_decide_eq_true h1
      walk_at "z"
      refine ite_b (fun h2 => ?_) (fun h2 => ?_)
      · walk_at "z"
        exact k2 (by simp at h2; omega)
      · have h2' : m ≤ 200 := by simpa using h2
        walk_at "z"
        intro l hl
        have hpl : p ≠ l := (un_fresh hl).1.symm
        walk_at "z"
        intro l2 hl2
        have hpl2 : p ≠ l2 := (un_fresh hl2).1.symm
        have hll : l2 ≠ l := (un_fresh (un_fresh hl2).2).1
        walk_at "z"
        exact k1 h1' h2' _ l l2 (un_fresh hl).2 (un_fresh (un_fresh (un_fresh hl2).2).2).2 ⟨⟨dx, by walk_at "h"⟩, by walk_at "h", by walk_at "h", hll.symm⟩ (by walk_at "fr")
    · have h1' := of_decide_eq_false h1
      walk_at "z"
      exact k2 (by omega)
end

theorem sc_History_add : FnScope ["self", "text"] ["self", "text"] (defScope s_History_add) := ⟨rfl, rfl, rfl, by decide +kernel, rfl, by decide +kernel, by decide +kernel⟩
section
variable {P : Program} {w : World} {K : PySem.W.Frag} {mg : Str → Option Value} {base : Heap}
def sp_History_add (K : PySem.W.Frag) : Sp := fun vs H Q E => ∃ (p lk ls : Addr) (m s : Int) (ks ss : List Str) (x : Str), vs = [.ref p, .str x] ∧ HistAt K H p lk ls m ks ss s ∧ x.length < sizeLine ∧ ks.length ≤ 1000 ∧ 1 ≤ m ∧ (∀ t ∈ ks, plainS t = true) ∧
  (okText x = true → ∀ H' lk' ls', (lk' = lk ∨ H lk' = none) → H ls' = none → HistAt K H' p lk' ls' m (addH m x ks) (addH m x ks ++ [("" : Str)]) ((addH m x ks).length : Nat) → Fr [p] H H' → Q .non H') ∧
  (okText x = false → ∀ H', Same H H' → E (.ref (He.ga K "BadText")) none H')
theorem m_History_add (T : Tx K mg) : Mt P w K mg base (He.ga K "History") "add" 3 ["self", "text"] (sp_History_add K) := by
  obtain ⟨fd, F⟩ := T.c.d.def_ 3 (d := d_History_add) rfl
  refine ⟨_, fd, F.ok (CX := L2.CX P w) sc_History_add (fun vs H Q E h => ?len) (fun cdv A outer s H vs Q E hr h => ?body), T.me_History_add, T.cl_History, F.bindsN fun _ _ _ _ _ _ us hl => match us, hl with | [_, _], _ => rfl⟩
  case len => obtain ⟨p, lk, ls, m, s0, ks, ss, x, rfl, R, hx, hn, hm, hpl, k1, k2⟩ := h; rfl
  case body =>
    obtain ⟨p, lk, ls, m, s0, ks, ss, x, rfl, R, hx, hn, hm, hpl, k1, k2⟩ := h
    have hu64 := hr.units
    refine ⟨_, (pss_cons (ps_expr (pe_fn (f_look_text T) (hr.mono (by decide)) tkOf (pa_cons (pv 1) pa_nil)))
      (Evl.pss_cut (ps_if (PW.pt (pw_and (pt_cmpR op_ne (pv 1) pe_str (nomark _)) (pw_and1 (pt_cmpR (op_neDK (K := K) rfl hu64) (pe_slice (sl_listK (K := K) rfl) (pe_get T.cl_History T.na_History_kept (pv 0)) (po_some (pe_un un_neg pe_int)) po_none) (pe_lst (pa_cons (pv 1) pa_nil)) (nomark _))))) (pss_one (ps_put T.cl_History T.na_History_kept (pv 0) (pe_slice (sl_listK (K := K) rfl) (pe_op op_cat (pe_get T.cl_History T.na_History_kept (pv 0)) (pe_lst (pa_cons (pv 1) pa_nil))) (po_some (pe_op op_sub pe_int (pe_get T.cl_History T.na_History_most (pv 0)))) po_none))) pss_nil)
      (pss_cons (ps_put T.cl_History T.na_History_shown (pv 0) (pe_op op_cat (pe_get T.cl_History T.na_History_kept (pv 0)) (pe_lst (pa_cons pe_str pa_nil))))
      (pss_one (ps_put T.cl_History T.na_History_spot (pv 0) (pe_callB (call_lnK (K := K) rfl) rfl T.n_len boot_len (pa_cons (pe_get T.cl_History T.na_History_kept (pv 0)) pa_nil))))))), ?_⟩
    walk_at "z"
    refine ⟨x, rfl, hx, fun ok H1 s1 => ?_, fun bad H1 s1 => k2 bad H1 s1⟩
    have R1 := R.same s1
    obtain ⟨⟨dx, ho⟩, hk, hsl, hne⟩ := R1
    have hx4 : x.length ≤ 400 := by
      unfold okText at ok
      rw [Bool.and_eq_true] at ok
      exact of_decide_eq_true ok.1
    have hxp : plainS x = true := plain_ok ok
    have npk : lk ≠ p := ne_of hk ho (by intro z; cases z)
    refine z_cut (fun σ' H' => σ' = L2.start ["self", "text"] [.ref p, .str x] ∧ ∃ lk', (lk' = lk ∨ H lk' = none) ∧ H' p = some (.ins (He.ga K "History") dx (histF m lk' ls s0)) ∧ H' lk' = some (.lst ((addH m x ks).map V.str)) ∧ Fr [p] H H') ?_ ?_
    · walk_at "z"
      refine ite_b (fun h1 => ?_) (fun h1 => ?_)
      · have ne : ¬ x = "" := by simpa using h1
        walk_at "z"
        intro a ha
        have nka := ne_of_none hk ha
        walk_at "z"
        intro b hb
        obtain ⟨nba, hb'⟩ := un_fresh hb
        have e1 : cutV (ks.map V.str) (some (-1)) none = (cutL ks (some (-1)) none).map V.str := by rw [cutV_eq, cutL_map]
        have pl1 : ∀ t ∈ cutL ks (some (-1)) none, plainS t = true := fun t ht => hpl t (by
          unfold cutL at ht
          exact List.mem_of_mem_drop (List.mem_of_mem_take ht))
        refine z_neD (d := strD (cutL ks (some (-1)) none)) (e := strD [x]) (dp_strs (SqL.of (by rw [upd_ne nba.symm, upd_same, e1]))) (dp_strs (SqL.of upd_same)) (shaped_strs pl1) (shaped_strs (by simpa using hxp)) ?_
        rw [eqv_strs]
        have eL : cutL ks (some (-1)) none = [x] ↔ ks.getLast? = some x := by
          rw [last_slice]
          cases ks.getLast? with
          | none => simp
          | some y => simp
        have s2 : Same H1 (upd (upd H1 a (.lst (cutV (ks.map V.str) (some (-1)) none))) b (.lst [.str x])) := by walk_at "sa"
        have ho2 := s2 _ _ ho
        have hk2 := s2 _ _ hk
        generalize upd (upd H1 a (HO.lst (cutV (ks.map V.str) (some (-1)) none))) b (HO.lst [V.str x]) = H2 at *
        walk_at "z"
        refine ite_b (fun h2 => ?_) (fun h2 => ?_)
        · have nl : ¬ ks.getLast? = some x := fun z => by
            rw [decide_eq_true (eL.mpr z)] at h2; cases h2
          walk_at "z"
          intro c hc
          have npc := ne_of_none ho2 hc
          have nkc := ne_of_none hk2 hc
          walk_at "z"
          intro e he
          obtain ⟨nec, he'⟩ := un_fresh he
          have npe := ne_of_none ho2 he'
          walk_at "z"
          intro f hf
          obtain ⟨nfe, hf'⟩ := un_fresh hf
          obtain ⟨nfc, hf''⟩ := un_fresh hf'
          have npf := ne_of_none ho2 hf''
          walk_at "z"
          refine ⟨rfl, f, .inr (fresh_of s1 (fresh_of s2 hf'')), by walk_at "h", ?_, ?_⟩
          · have e2 : cutV (ks.map V.str ++ [.str x]) (some (0 - m)) none = (addH m x ks).map V.str := by
              rw [cutV_eq, show ks.map V.str ++ [.str x] = (ks ++ [x]).map V.str by simp, cutL_map, show (0 : Int) - m = -m by omega, cutL_lastN _ (by omega), addH, if_neg (by simp [ne, nl])]
            rw [upd_ne npf.symm, ← e2]; exact upd_same
          · exact Fr.upd (Fr.new (Fr.new (Fr.new (Fr.same (Same.trans s1 s2)) hc) he) hf) (by simp)
        · have yl : ks.getLast? = some x := by
            apply eL.mp
            simpa using h2
          walk_at "z"
          refine ⟨rfl, lk, .inl rfl, ho2, ?_, Fr.same (Same.trans s1 s2)⟩
          rw [addH, if_pos (.inr yl)]; exact hk2
      · have e : x = "" := by simpa using h1
        walk_at "z"
        refine ⟨rfl, lk, .inl rfl, ho, ?_, Fr.same s1⟩
        rw [addH, if_pos (.inl e)]; exact hk
    rintro σ H2 ⟨rfl, lk', hlk', ho2, hk2, f2⟩
    have nk2 : lk' ≠ p := ne_of hk2 ho2 (by intro z; cases z)
    have hlen : (addH m x ks).length ≤ 1001 := by
      unfold addH
      split
      · omega
      · simp; omega
    walk_at "z"
    intro a ha
    have nka := ne_of_none hk2 ha
    have npa := ne_of_none ho2 ha
    walk_at "z"
    intro b hb
    obtain ⟨nba, hb'⟩ := un_fresh hb
    have nkb := ne_of_none hk2 hb'
    have npb := ne_of_none ho2 hb'
    walk_at "z"
    have hb0 : H b = none := by
      cases q : H b with
      | none => rfl
      | some o =>
        by_cases z : b = p
        · rw [z] at hb'; rw [hb'] at ho2; cases ho2
        · rw [f2 b o q (by simpa using z)] at hb'; cases hb'
    refine k1 ok _ lk' b hlk' hb0 ⟨⟨dx, ?_⟩, by walk_at "h", ?_, nkb⟩ (by walk_at "fr")
    · rw [upd_same, List.length_map]; rfl
    · rw [upd_ne npb.symm, upd_ne npb.symm, upd_same]; simp
end

theorem sc_History_all_lines : FnScope ["self"] ["self"] (defScope s_History_all_lines) := ⟨rfl, rfl, rfl, by decide +kernel, rfl, by decide +kernel, by decide +kernel⟩
section
variable {P : Program} {w : World} {K : PySem.W.Frag} {mg : Str → Option Value} {base : Heap}
def sp_History_all_lines (K : PySem.W.Frag) : Sp := fun vs H Q _ => ∃ (p lk ls : Addr) (m s : Int) (ks ss : List Str), vs = [.ref p] ∧ HistAt K H p lk ls m ks ss s ∧ ∀ q, H q = none → Q (.ref q) (upd H q (.lst (ks.map V.str)))
theorem m_History_all_lines (T : Tx K mg) : Mt P w K mg base (He.ga K "History") "all_lines" 1 ["self"] (sp_History_all_lines K) := by
  obtain ⟨fd, F⟩ := T.c.d.def_ 4 (d := d_History_all_lines) rfl
  refine ⟨_, fd, F.ok (CX := L2.CX P w) sc_History_all_lines (fun vs H Q E h => ?len) (fun cdv A outer s H vs Q E hr h => ?body), T.me_History_all_lines, T.cl_History, F.bindsN fun _ _ _ _ _ _ us hl => match us, hl with | [_], _ => rfl⟩
  case len => obtain ⟨p, lk, ls, m, s0, ks, ss, rfl, ⟨⟨dx, ho⟩, hk, hsl, hne⟩, k⟩ := h; rfl
  case body =>
    obtain ⟨p, lk, ls, m, s0, ks, ss, rfl, ⟨⟨dx, ho⟩, hk, hsl, hne⟩, k⟩ := h
    refine ⟨_, (pss_one (ps_ret (pe_callTy (call_loK (K := K) rfl) rfl T.n_list (by decide +kernel) (pa_cons (pe_get T.cl_History T.na_History_kept (pv 0)) pa_nil)))), ?_⟩
    walk_at "z"
    exact k
end

theorem sc_History_here : FnScope ["self"] ["self"] (defScope s_History_here) := ⟨rfl, rfl, rfl, by decide +kernel, rfl, by decide +kernel, by decide +kernel⟩
section
variable {P : Program} {w : World} {K : PySem.W.Frag} {mg : Str → Option Value} {base : Heap}
def sp_History_here (K : PySem.W.Frag) : Sp := fun vs H Q _ => ∃ (p lk ls : Addr) (m s : Int) (ks ss : List Str), vs = [.ref p] ∧ HistAt K H p lk ls m ks ss s ∧ Q (.int s) H
theorem m_History_here (T : Tx K mg) : Mt P w K mg base (He.ga K "History") "here" 1 ["self"] (sp_History_here K) := by
  obtain ⟨fd, F⟩ := T.c.d.def_ 5 (d := d_History_here) rfl
  refine ⟨_, fd, F.ok (CX := L2.CX P w) sc_History_here (fun vs H Q E h => ?len) (fun cdv A outer s H vs Q E hr h => ?body), T.me_History_here, T.cl_History, F.bindsN fun _ _ _ _ _ _ us hl => match us, hl with | [_], _ => rfl⟩
  case len => obtain ⟨p, lk, ls, m, s0, ks, ss, rfl, ⟨⟨dx, ho⟩, hk, hsl, hne⟩, k⟩ := h; rfl
  case body =>
    obtain ⟨p, lk, ls, m, s0, ks, ss, rfl, ⟨⟨dx, ho⟩, hk, hsl, hne⟩, k⟩ := h
    refine ⟨_, (pss_one (ps_ret (pe_get T.cl_History T.na_History_spot (pv 0)))), ?_⟩
    walk_at "z"
    exact k
end

theorem sc_History_many : FnScope ["self"] ["self"] (defScope s_History_many) := ⟨rfl, rfl, rfl, by decide +kernel, rfl, by decide +kernel, by decide +kernel⟩
section
variable {P : Program} {w : World} {K : PySem.W.Frag} {mg : Str → Option Value} {base : Heap}
def sp_History_many (K : PySem.W.Frag) : Sp := fun vs H Q _ => ∃ (p lk ls : Addr) (m s : Int) (ks ss : List Str), vs = [.ref p] ∧ HistAt K H p lk ls m ks ss s ∧ Q (.int (ks.length : Nat)) H
theorem m_History_many (T : Tx K mg) : Mt P w K mg base (He.ga K "History") "many" 1 ["self"] (sp_History_many K) := by
  obtain ⟨fd, F⟩ := T.c.d.def_ 6 (d := d_History_many) rfl
  refine ⟨_, fd, F.ok (CX := L2.CX P w) sc_History_many (fun vs H Q E h => ?len) (fun cdv A outer s H vs Q E hr h => ?body), T.me_History_many, T.cl_History, F.bindsN fun _ _ _ _ _ _ us hl => match us, hl with | [_], _ => rfl⟩
  case len => obtain ⟨p, lk, ls, m, s0, ks, ss, rfl, ⟨⟨dx, ho⟩, hk, hsl, hne⟩, k⟩ := h; rfl
  case body =>
    obtain ⟨p, lk, ls, m, s0, ks, ss, rfl, ⟨⟨dx, ho⟩, hk, hsl, hne⟩, k⟩ := h
    refine ⟨_, (pss_one (ps_ret (pe_callB (call_lnK (K := K) rfl) rfl T.n_len boot_len (pa_cons (pe_get T.cl_History T.na_History_kept (pv 0)) pa_nil)))), ?_⟩
    walk_at "z"
    show Q (.int ((ks.map V.str).length : Nat)) H
    rw [List.length_map]
    exact k
end

theorem sc_History_keep : FnScope ["self", "text"] ["self", "text"] (defScope s_History_keep) := ⟨rfl, rfl, rfl, by decide +kernel, rfl, by decide +kernel, by decide +kernel⟩
section
variable {P : Program} {w : World} {K : PySem.W.Frag} {mg : Str → Option Value} {base : Heap}
def sp_History_keep (K : PySem.W.Frag) : Sp := fun vs H Q _ => ∃ (p lk ls : Addr) (m : Int) (s : Nat) (ks ss : List Str) (x : Str), vs = [.ref p, .str x] ∧ HistAt K H p lk ls m ks ss s ∧ s < ss.length ∧ ∀ H', HistAt K H' p lk ls m ks (ss.set s x) s → Fr [ls] H H' → Q .non H'
theorem m_History_keep (T : Tx K mg) : Mt P w K mg base (He.ga K "History") "keep" 1 ["self", "text"] (sp_History_keep K) := by
  obtain ⟨fd, F⟩ := T.c.d.def_ 7 (d := d_History_keep) rfl
  refine ⟨_, fd, F.ok (CX := L2.CX P w) sc_History_keep (fun vs H Q E h => ?len) (fun cdv A outer s H vs Q E hr h => ?body), T.me_History_keep, T.cl_History, F.bindsN fun _ _ _ _ _ _ us hl => match us, hl with | [_, _], _ => rfl⟩
  case len => obtain ⟨p, lk, ls, m, s0, ks, ss, x, rfl, ⟨⟨dx, ho⟩, hk, hsl, hne⟩, hs, k⟩ := h; rfl
  case body =>
    obtain ⟨p, lk, ls, m, s0, ks, ss, x, rfl, ⟨⟨dx, ho⟩, hk, hsl, hne⟩, hs, k⟩ := h
    refine ⟨_, (pss_one (ps_asg (pv 1) (pg_sub (pe_get T.cl_History T.na_History_shown (pv 0)) (pe_get T.cl_History T.na_History_spot (pv 0)) set_list))), ?_⟩
    have nps : p ≠ ls := ne_of ho hsl (by intro z; cases z)
    walk_at "z"
    refine z_setL (j := s0) hsl (Evl.ixN_nat (by simpa using hs)) ?_
    refine k _ ⟨⟨dx, by walk_at "h"⟩, by walk_at "h", ?_, hne⟩ (by walk_at "fr")
    rw [upd_same, List.map_set]
end

theorem sc_History_go : FnScope ["self", "spot"] ["self", "spot"] (defScope s_History_go) := ⟨rfl, rfl, rfl, by decide +kernel, rfl, by decide +kernel, by decide +kernel⟩
section
variable {P : Program} {w : World} {K : PySem.W.Frag} {mg : Str → Option Value} {base : Heap}
def sp_History_go (K : PySem.W.Frag) : Sp := fun vs H Q E => ∃ (p lk ls : Addr) (m s g : Int) (ks ss : List Str), vs = [.ref p, .int g] ∧ HistAt K H p lk ls m ks ss s ∧
  (∀ (j : Nat) (y : Str), g = j → ss[j]? = some y → ∀ H', HistAt K H' p lk ls m ks ss g → Fr [p] H H' → Q (.str y) H') ∧ (¬ (0 ≤ g ∧ g < ss.length) → E (.ref (He.ga K "BadPlace")) none H)
theorem m_History_go (T : Tx K mg) : Mt P w K mg base (He.ga K "History") "go" 1 ["self", "spot"] (sp_History_go K) := by
  obtain ⟨fd, F⟩ := T.c.d.def_ 8 (d := d_History_go) rfl
  refine ⟨_, fd, F.ok (CX := L2.CX P w) sc_History_go (fun vs H Q E h => ?len) (fun cdv A outer s H vs Q E hr h => ?body), T.me_History_go, T.cl_History, F.bindsN fun _ _ _ _ _ _ us hl => match us, hl with | [_, _], _ => rfl⟩
  case len => obtain ⟨p, lk, ls, m, s0, g, ks, ss, rfl, ⟨⟨dx, ho⟩, hk, hsl, hne⟩, k1, k2⟩ := h; rfl
  case body =>
    obtain ⟨p, lk, ls, m, s0, g, ks, ss, rfl, ⟨⟨dx, ho⟩, hk, hsl, hne⟩, k1, k2⟩ := h
    refine ⟨_, (pss_cons (ps_if (pt_not (pt_chain op_le op_lt pe_int (pv 1) (pe_callB (call_lnK (K := K) rfl) rfl T.n_len boot_len (pa_cons (pe_get T.cl_History T.na_History_shown (pv 0)) pa_nil)))) (pss_one (ps_rs rfl tkOf T.x_BadPlace T.g_BadPlace)) pss_nil)
      (pss_cons (ps_put T.cl_History T.na_History_spot (pv 0) (pv 1))
      (pss_one (ps_ret (pe_ix (ix_listK (K := K) rfl) (pe_get T.cl_History T.na_History_shown (pv 0)) (pv 1) (fun _ _ => rfl)))))), ?_⟩
    have nps : ls ≠ p := ne_of hsl ho (by intro z; cases z)
    have npk : lk ≠ p := ne_of hk ho (by intro z; cases z)
    walk_at "z"
    refine ite_b (fun h1 => ?_) (fun h1 => ?_)
    · have h1' := of_decide_eq_true h1
      walk_at "z"
      refine ite_b (fun h2 => ?_) (fun h2 => ?_)
      · walk_at "z"
        refine k2 ?_
        simp at h2; omega
      · have h2' : g < ss.length := by simpa using h2
        obtain ⟨j, rfl⟩ := Int.eq_ofNat_of_zero_le h1'
        have hj : j < ss.length := by omega
        walk_at "z"
        refine z_ixL (v := .str ss[j]) (SqL.of (by rw [upd_ne nps]; exact hsl)) (atI_nat (by rw [List.getElem?_map, List.getElem?_eq_getElem hj]; rfl)) ?_
        exact k1 j _ rfl (List.getElem?_eq_getElem hj) _ ⟨⟨dx, by walk_at "h"⟩, by walk_at "h", by walk_at "h", hne⟩ (by walk_at "fr")
    · have h1' := of_decide_eq_false h1
      walk_at "z"
      exact k2 (by omega)
end

theorem sc_History_find : FnScope ["self", "part", "spot", "k"] ["self", "part", "spot"] (defScope s_History_find) := ⟨rfl, rfl, rfl, by decide +kernel, rfl, by decide +kernel, by decide +kernel⟩
section
variable {P : Program} {w : World} {K : PySem.W.Frag} {mg : Str → Option Value} {base : Heap}
def sp_History_find (K : PySem.W.Frag) : Sp := fun vs H Q _ => ∃ (p lk ls : Addr) (m s g : Int) (ks ss : List Str) (part : Str), vs = [.ref p, .str part, .int g] ∧ HistAt K H p lk ls m ks ss s ∧ ks.length ≤ 1000000 ∧ -1000000 ≤ g ∧ g ≤ 1000000 ∧ Q (optV (findH ks part g)) H
theorem m_History_find (T : Tx K mg) : Mt P w K mg base (He.ga K "History") "find" 1 ["self", "part", "spot"] (sp_History_find K) := by
  obtain ⟨fd, F⟩ := T.c.d.def_ 9 (d := d_History_find) rfl
  refine ⟨_, fd, F.ok (CX := L2.CX P w) sc_History_find (fun vs H Q E h => ?len) (fun cdv A outer s H vs Q E hr h => ?body), T.me_History_find, T.cl_History, F.bindsN fun _ _ _ _ _ _ us hl => match us, hl with | [_, _, _], _ => rfl⟩
  case len => obtain ⟨p, lk, ls, m, s0, g, ks, ss, part, rfl, ⟨⟨dx, ho⟩, hk, hsl, hne⟩, hn, g1, g2, k⟩ := h; rfl
  case body =>
    obtain ⟨p, lk, ls, m, s0, g, ks, ss, part, rfl, ⟨⟨dx, ho⟩, hk, hsl, hne⟩, hn, g1, g2, k⟩ := h
    refine ⟨_, (pss_cons (ps_for passOf rfl (pi_range3 rfl T.n_range (pa_cons (pe_callB (call_mn rfl) rfl T.n_min (by decide +kernel) (pa_cons (pv 2) (pa_cons (pe_op op_sub (pe_callB (call_lnK (K := K) rfl) rfl T.n_len boot_len (pa_cons (pe_get T.cl_History T.na_History_kept (pv 0)) pa_nil)) pe_int) pa_nil))) (pa_cons (pe_un un_neg pe_int) (pa_cons (pe_un un_neg pe_int) pa_nil)))) (pg_name (i := 3) sc_History_find.nd rfl (Or.inl rfl)) (pss_one (ps_if (pt_cmpR op_inStr (pv 1) (pe_ix (ix_listK (K := K) rfl) (pe_get T.cl_History T.na_History_kept (pv 0)) (pv 3) (fun _ _ => rfl)) rfl) (pss_one (ps_ret (pv 3))) pss_nil)))
      (pss_one (ps_ret pe_non))), ?_⟩
    walk_at "z"
    have hnl : ((ks.map V.str).length : Int) = ks.length := by rw [List.length_map]
    obtain ⟨K0, eK⟩ : ∃ K0 : Int, K0 = (if ((ks.map V.str).length : Int) - 1 < g then ((ks.map V.str).length : Int) - 1 else g) := ⟨_, rfl⟩
    rw [← eK]
    have b1 : K0 ≤ g ∧ K0 ≤ ks.length - 1 ∧ (K0 = g ∨ K0 = ks.length - 1) := by
      rw [hnl] at eK
      split at eK <;> omega
    refine z_rng3e (RgC.neg (by omega) (by omega) (by decide) (by decide)) ?_
    refine fg_rangeC (fun i σ H' => H' = H ∧ (∃ v, σ = [some (.ref p), some (.str part), some (.int g), v]) ∧ ∀ j : Nat, K0 - i < j → j < ks.length → hitH ks part g j = false) ⟨rfl, ⟨none, rfl⟩, ?_⟩ ?_ ?_
    · intro j h1 h2
      unfold hitH
      rw [decide_eq_false (by omega)]; rfl
    · rintro i σ H' hi ⟨rfl, ⟨v, rfl⟩, hno⟩
      have hi' : (i : Int) < K0 + 1 := by omega
      obtain ⟨j, ej⟩ := Int.eq_ofNat_of_zero_le (show 0 ≤ K0 - i by omega)
      have hj : j < ks.length := by omega
      have ek : K0 + (i : Nat) * -1 = (j : Int) := by omega
      have eg : ks.getD j "" = ks[j] := by rw [List.getD_eq_getElem?_getD, List.getElem?_eq_getElem hj]; rfl
      rw [ek]
      walk_at "z"
      refine z_ixL (v := .str ks[j]) (SqL.of hk) (atI_nat (by rw [List.getElem?_map, List.getElem?_eq_getElem hj]; rfl)) ?_
      walk_at "z"
      refine ite_b (fun h => ?_) (fun h => ?_)
      · walk_at "z"
        have : findH ks part g = some j := last_filter hj (by unfold hitH inS; rw [eg, h, decide_eq_true (by omega)]; rfl) fun j' a b => hno j' (by omega) b
        rw [this] at k
        exact k
      · walk_at "z"
        refine ⟨rfl, ⟨_, rfl⟩, fun j' a b => ?_⟩
        by_cases e : j' = j
        · subst e
          unfold hitH inS
          rw [eg, h, Bool.and_false]
        · exact hno j' (by omega) b
    · rintro σ H' ⟨rfl, ⟨v, rfl⟩, hno⟩
      walk_at "z"
      have : findH ks part g = none := none_filter fun j hj => hno j (by omega) hj
      rw [this] at k
      exact k
end

theorem sc__law_cell : FnScope ["script", "k"] ["script", "k"] (defScope s__law_cell) := ⟨rfl, rfl, rfl, by decide +kernel, rfl, by decide +kernel, by decide +kernel⟩
section
variable {P : Program} {w : World} {K : PySem.W.Frag} {mg : Str → Option Value} {base : Heap}
def sp_law_cell (K : PySem.W.Frag) : Sp := fun vs H Q _ => ∃ (a : Addr) (ns : List Int) (k : Int), vs = [.ref a, .int k] ∧ Scr K H a ns ∧ ∀ z : Int, Q (.int z) H
theorem f__law_cell (T : Tx K mg) : Fn P w K mg base "_law_cell" 1 ["script", "k"] (sp_law_cell K) := by
  obtain ⟨fd, F⟩ := T.c.d.def_ 10 (d := d__law_cell) rfl
  refine ⟨_, fd, F.ok (CX := L2.CX P w) sc__law_cell (fun vs H Q E h => ?len) (fun cdv A outer s H vs Q E hr h => ?body), T.g__law_cell, F.kp, F.bindsN fun _ _ _ _ _ _ us hl => match us, hl with | [_, _], _ => rfl, FunD.bindsA F fun _ _ _ _ _ _ us hl => match us, hl with | [_, _], _ => rfl⟩
  case len => obtain ⟨a, ns, n, rfl, hs0, k⟩ := h; rfl
  case body =>
    obtain ⟨a, ns, n, rfl, hs0, k⟩ := h
    refine ⟨_, (pss_cons (ps_if (pt_trK (K := K) rfl (pv 0)) (pss_one (ps_ret (pe_ix (ix_listK (K := K) rfl) (pv 0) (pe_op op_mod (pv 1) (pe_callB (call_lnK (K := K) rfl) rfl T.n_len boot_len (pa_cons (pv 0) pa_nil))) (fun _ _ => rfl)))) pss_nil)
      (pss_one (ps_ret pe_int))), ?_⟩
    have hs := hs0.sq
    walk_at "z"
    cases ns with
    | nil =>
      refine iteF ?_
      walk_at "z"
      exact k _
    | cons t r =>
      refine iteT ?_
      walk_at "z"
      have hp : (0 : Int) < (((t :: r).map V.int).length : Nat) := by simp
      refine z_i hp ?_
      have h1 := Int.emod_nonneg n (show (((t :: r).map V.int).length : Int) ≠ 0 by omega)
      have h2 := Int.emod_lt_of_pos n hp
      obtain ⟨j, e⟩ := Int.eq_ofNat_of_zero_le h1
      have hj : j < (t :: r).length := by simp at h2 e ⊢; omega
      refine z_ixL hs (v := .int ((t :: r)[j])) ?_ (k _)
      show atI _ (n % (((t :: r).map V.int).length : Nat)) = _
      rw [e]
      exact atI_nat (by rw [List.getElem?_map, List.getElem?_eq_getElem hj]; rfl)
end

theorem sc__law_mix : FnScope ["script", "k", "number"] ["script", "k"] (defScope s__law_mix) := ⟨rfl, rfl, rfl, by decide +kernel, rfl, by decide +kernel, by decide +kernel⟩
section
variable {P : Program} {w : World} {K : PySem.W.Frag} {mg : Str → Option Value} {base : Heap}
def sp_law_mix (K : PySem.W.Frag) : Sp := fun vs H Q _ => ∃ (a : Addr) (ns : List Int) (k : Int), vs = [.ref a, .int k] ∧ Scr K H a ns ∧ ∀ z : Int, 0 ≤ z → Q (.int z) H
theorem f__law_mix (T : Tx K mg) : Fn P w K mg base "_law_mix" 2 ["script", "k"] (sp_law_mix K) := by
  obtain ⟨fd, F⟩ := T.c.d.def_ 11 (d := d__law_mix) rfl
  refine ⟨_, fd, F.ok (CX := L2.CX P w) sc__law_mix (fun vs H Q E h => ?len) (fun cdv A outer s H vs Q E hr h => ?body), T.g__law_mix, F.kp, F.bindsN fun _ _ _ _ _ _ us hl => match us, hl with | [_, _], _ => rfl, FunD.bindsA F fun _ _ _ _ _ _ us hl => match us, hl with | [_, _], _ => rfl⟩
  case len => obtain ⟨a, ns, n, rfl, hs, k⟩ := h; rfl
  case body =>
    obtain ⟨a, ns, n, rfl, hs, k⟩ := h
    refine ⟨_, (pss_cons (ps_set (i := 2) sc__law_mix.nd rfl (Or.inl rfl) (pe_op op_mod (pe_op op_add (pe_fn (f__law_cell T) (hr.mono (by decide)) tkOf (pa_cons (pv 0) (pa_cons (pv 1) pa_nil))) (pe_op op_mul pe_int (pe_op op_add (pv 1) pe_int))) pe_int))
      (pss_cons (ps_set (i := 2) sc__law_mix.nd rfl (Or.inl rfl) (pe_op op_mod (pe_op op_pow (pv 2) pe_int) pe_int))
      (pss_one (ps_ret (pe_op op_mod (pe_op op_add (pe_op op_mul (pe_op op_fdiv (pv 2) pe_int) pe_int) (pv 2)) pe_int))))), ?_⟩
    walk_at "z"
    refine ⟨a, ns, n, rfl, hs, fun z => ?_⟩
    walk_at "z"
    refine z_i (.inl ⟨by decide, by decide⟩) ?_
    walk_at "z"
    refine z_i (by decide) ?_
    walk_at "z"
    have b1 := Int.emod_nonneg (z + 104729 * (n + 1)) (show (4294967291 : Int) ≠ 0 by decide)
    have b2 := Int.emod_lt_of_pos (z + 104729 * (n + 1)) (show (0 : Int) < 4294967291 by decide)
    refine z_i ⟨by decide, by decide, by omega⟩ ?_
    walk_at "z"
    refine z_i (by decide) ?_
    walk_at "z"
    refine z_i ⟨by decide, by decide⟩ ?_
    walk_at "z"
    refine z_i (.inr ⟨by decide, by decide⟩) ?_
    walk_at "z"
    refine z_i (by decide) ?_
    exact k _ (Int.emod_nonneg _ (by decide))
end

theorem sc__law_draw : FnScope ["script", "town", "many"] ["script", "town", "many"] (defScope s__law_draw) := ⟨rfl, rfl, rfl, by decide +kernel, rfl, by decide +kernel, by decide +kernel⟩
section
variable {P : Program} {w : World} {K : PySem.W.Frag} {mg : Str → Option Value} {base : Heap}
/-- the town: a list that grows by one at each draw -/
def sp_law_draw (K : PySem.W.Frag) : Sp := fun vs H Q _ => ∃ (a t : Addr) (ns : List Int) (zs : List V) (m : Int), vs = [.ref a, .ref t, .int m] ∧ Scr K H a ns ∧ H t = some (.lst zs) ∧ zs.length < 100000 ∧ 0 < m ∧ ∀ (d : Int) (H' : Hp), 0 ≤ d → d < m → H' t = some (.lst (zs ++ [.int 0])) → Fr [t] H H' → Q (.int d) H'
theorem f__law_draw (T : Tx K mg) : Fn P w K mg base "_law_draw" 3 ["script", "town", "many"] (sp_law_draw K) := by
  obtain ⟨fd, F⟩ := T.c.d.def_ 12 (d := d__law_draw) rfl
  refine ⟨_, fd, F.ok (CX := L2.CX P w) sc__law_draw (fun vs H Q E h => ?len) (fun cdv A outer s H vs Q E hr h => ?body), T.g__law_draw, F.kp, F.bindsN fun _ _ _ _ _ _ us hl => match us, hl with | [_, _, _], _ => rfl, FunD.bindsA F fun _ _ _ _ _ _ us hl => match us, hl with | [_, _, _], _ => rfl⟩
  case len => obtain ⟨a, t, ns, zs, m, rfl, hs, ht, hz, hm, k⟩ := h; rfl
  case body =>
    obtain ⟨a, t, ns, zs, m, rfl, hs, ht, hz, hm, k⟩ := h
    refine ⟨_, (pss_cons (ps_expr (pe_bmK (K := K) rfl PySem.F.plainAttrs_list PySem.F.slot_list_append PySem.F.type_list_append mt_append (pv 1) (pa_cons pe_int pa_nil)))
      (pss_one (ps_ret (pe_op op_mod (pe_op op_fdiv (pe_fn (f__law_mix T) (hr.mono (by decide)) tkOf (pa_cons (pv 0) (pa_cons (pe_callB (call_lnK (K := K) rfl) rfl T.n_len boot_len (pa_cons (pv 1) pa_nil)) pa_nil))) pe_int) (pv 2))))), ?_⟩
    walk_at "z"
    refine ⟨a, ns, _, rfl, hs.upd (Mu.lst ht), fun z hz0 => ?_⟩
    walk_at "z"
    refine z_i ⟨by decide, by decide⟩ ?_
    walk_at "z"
    exact z_i hm (k _ _ (Int.emod_nonneg _ (by omega)) (Int.emod_lt_of_pos _ hm) upd_same (by walk_at "fr"))
end

theorem sc__law_pick : FnScope ["script", "town", "some"] ["script", "town", "some"] (defScope s__law_pick) := ⟨rfl, rfl, rfl, by decide +kernel, rfl, by decide +kernel, by decide +kernel⟩
section
variable {P : Program} {w : World} {K : PySem.W.Frag} {mg : Str → Option Value} {base : Heap}
def sp_law_pick (K : PySem.W.Frag) : Sp := fun vs H Q _ => ∃ (a t q : Addr) (ns : List Int) (zs xs : List V), vs = [.ref a, .ref t, .ref q] ∧ Scr K H a ns ∧ H t = some (.lst zs) ∧ zs.length < 100000 ∧ H q = some (.lst xs) ∧ xs ≠ [] ∧ q ≠ t ∧ ∀ v ∈ xs, ∀ H', H' t = some (.lst (zs ++ [.int 0])) → Fr [t] H H' → Q v H'
theorem f__law_pick (T : Tx K mg) : Fn P w K mg base "_law_pick" 4 ["script", "town", "some"] (sp_law_pick K) := by
  obtain ⟨fd, F⟩ := T.c.d.def_ 13 (d := d__law_pick) rfl
  refine ⟨_, fd, F.ok (CX := L2.CX P w) sc__law_pick (fun vs H Q E h => ?len) (fun cdv A outer s H vs Q E hr h => ?body), T.g__law_pick, F.kp, F.bindsN fun _ _ _ _ _ _ us hl => match us, hl with | [_, _, _], _ => rfl, FunD.bindsA F fun _ _ _ _ _ _ us hl => match us, hl with | [_, _, _], _ => rfl⟩
  case len => obtain ⟨a, t, q, ns, zs, xs, rfl, hs, ht, hz, hq, hx, hqt, k⟩ := h; rfl
  case body =>
    obtain ⟨a, t, q, ns, zs, xs, rfl, hs, ht, hz, hq, hx, hqt, k⟩ := h
    refine ⟨_, (pss_one (ps_ret (pe_ix (ix_listK (K := K) rfl) (pv 2) (pe_fn (f__law_draw T) (hr.mono (by decide)) tkOf (pa_cons (pv 0) (pa_cons (pv 1) (pa_cons (pe_callB (call_lnK (K := K) rfl) rfl T.n_len boot_len (pa_cons (pv 2) pa_nil)) pa_nil)))) (fun _ _ => rfl)))), ?_⟩
    have hxl : 0 < xs.length := List.length_pos_iff.mpr hx
    walk_at "z"
    refine ⟨a, t, ns, zs, _, rfl, hs, ht, hz, by omega, fun d H' h0 h1 ht' f' => ?_⟩
    obtain ⟨j, rfl⟩ := Int.eq_ofNat_of_zero_le h0
    have hj : j < xs.length := by omega
    exact z_ixL (SqL.of (f' _ _ hq (not_mem1 hqt))) (atI_nat (List.getElem?_eq_getElem hj)) (k _ (List.getElem_mem hj) _ ht' f')
end

theorem sc__law_refusal : FnScope ["held", "kinds"] ["held"] (defScope s__law_refusal) := ⟨rfl, rfl, rfl, by decide +kernel, rfl, by decide +kernel, by decide +kernel⟩
section
variable {P : Program} {w : World} {K : PySem.W.Frag} {mg : Str → Option Value} {base : Heap}
def errs : List (Str × Str) := [("BadKey", "key"), ("BadText", "text"), ("BadSize", "size"), ("BadPlace", "place")]
def sp_law_refusal (K : PySem.W.Frag) : Sp := fun vs H Q _ => ∃ (a : Addr) (e w : Str), vs = [.ref a] ∧ (e, w) ∈ errs ∧ H a = some (XO (.ref (He.ga K e)) none a) ∧ ∀ (t : Addr) (H' : Hp), H t = none → Same H H' → H' t = some (.tup [.str "refused", .str w]) → Q (.ref t) H'
theorem f__law_refusal (T : Tx K mg) : Fn P w K mg base "_law_refusal" 1 ["held"] (sp_law_refusal K) := by
  obtain ⟨fd, F⟩ := T.c.d.def_ 14 (d := d__law_refusal) rfl
  refine ⟨_, fd, F.ok (CX := L2.CX P w) sc__law_refusal (fun vs H Q E h => ?len) (fun cdv A outer s H vs Q E hr h => ?body), T.g__law_refusal, F.kp, F.bindsN fun _ _ _ _ _ _ us hl => match us, hl with | [_], _ => rfl, FunD.bindsA F fun _ _ _ _ _ _ us hl => match us, hl with | [_], _ => rfl⟩
  case len => obtain ⟨a, e, w, rfl, hw, ha, k⟩ := h; rfl
  case body =>
    obtain ⟨a, e, w, rfl, hw, ha, k⟩ := h
    refine ⟨_, (pss_cons (ps_if (pt_cmpR op_isNon (pv 0) pe_non (nomark _)) (pss_one (ps_ret (pe_tup (pa_cons pe_str pa_nil)))) pss_nil)
      (pss_cons (ps_set (i := 1) sc__law_refusal.nd rfl (Or.inl rfl) (pe_lst (pa_cons (pe_callB (call_isXK (K := K) rfl) rfl T.n_isinstance (by decide +kernel) (pa_cons (pv 0) (pa_cons (pe_gref T.g_BadKey) pa_nil))) (pa_cons (pe_callB (call_isXK (K := K) rfl) rfl T.n_isinstance (by decide +kernel) (pa_cons (pv 0) (pa_cons (pe_gref T.g_BadText) pa_nil))) (pa_cons (pe_callB (call_isXK (K := K) rfl) rfl T.n_isinstance (by decide +kernel) (pa_cons (pv 0) (pa_cons (pe_gref T.g_BadSize) pa_nil))) pa_nil)))))
      (pss_cons (ps_expr (pe_bmK (K := K) rfl PySem.F.plainAttrs_list PySem.F.slot_list_append PySem.F.type_list_append mt_append (pv 1) (pa_cons (pe_callB (call_isXK (K := K) rfl) rfl T.n_isinstance (by decide +kernel) (pa_cons (pv 0) (pa_cons (pe_gref T.g_BadPlace) pa_nil))) pa_nil)))
      (pss_cons (ps_if (PW.pt (pw_or (pt_cmpR op_ne (pe_bmK (K := K) rfl PySem.F.plainAttrs_list PySem.F.slot_list_count PySem.F.type_list_count (mt_countK (K := K) rfl) (pv 1) (pa_cons pe_bl pa_nil)) pe_int (nomark _)) (pw_or1 (pt_not (pt_val (pe_callB (call_isXK (K := K) rfl) rfl T.n_isinstance (by decide +kernel) (pa_cons (pv 0) (pa_cons (pe_bltn (v := .ty "ValueError") rfl T.n_ValueError (by decide +kernel) rfl) pa_nil)))))))) (pss_one (ps_ret (pe_tup (pa_cons pe_str pa_nil)))) pss_nil)
      (pss_one (ps_ret (pe_tup (pa_cons pe_str (pa_cons (pe_ix (ix_listK (K := K) rfl) (pe_lst (pa_cons pe_str (pa_cons pe_str (pa_cons pe_str (pa_cons pe_str pa_nil))))) (pe_bmK (K := K) rfl PySem.F.plainAttrs_list PySem.F.slot_list_index PySem.F.type_list_index (mt_indexK (K := K) rfl) (pv 1) (pa_cons pe_bl pa_nil)) (fun _ _ => rfl)) pa_nil))))))))), ?_⟩
    simp only [errs, List.mem_cons, Prod.mk.injEq, List.not_mem_nil, or_false] at hw
    rcases hw with ⟨rfl, rfl⟩ | ⟨rfl, rfl⟩ | ⟨rfl, rfl⟩ | ⟨rfl, rfl⟩
    · walk_at "z"
      refine z_isX ha T.ex_BadKey (.own _) T.k_BadKey_BadKey ?_
      walk_at "z"
      refine z_isX ha T.ex_BadKey (.own _) T.k_BadKey_BadText ?_
      walk_at "z"
      refine z_isX ha T.ex_BadKey (.own _) T.k_BadKey_BadSize ?_
      walk_at "z"
      intro l hl
      have hal := ne_of_none ha hl
      have ha1 : upd H l (.lst [.bl true, .bl false, .bl false]) a = some (XO (.ref (He.ga K "BadKey")) none a) := by rw [upd_ne hal]; exact ha
      walk_at "z"
      refine z_isX ha1 T.ex_BadKey (.own _) T.k_BadKey_BadPlace ?_
      walk_at "z"
      have ha2 : ∀ o, upd (upd H l (.lst [.bl true, .bl false, .bl false])) l o a = some (XO (.ref (He.ga K "BadKey")) none a) := fun o => by rw [upd_ne hal]; exact ha1
      refine z_count (SqL.of upd_same) rfl rfl ?_
      walk_at "z"
      refine z_isX (ha2 _) T.ex_BadKey (.ty _) T.kv_BadKey ?_
      walk_at "z"
      intro b hb
      obtain ⟨nbl, hb1⟩ := un_fresh hb
      obtain ⟨_, hb2⟩ := un_fresh hb1
      walk_at "z"
      refine z_index 0 (z := .bl true) (SqL.of (by rw [upd_ne nbl.symm]; exact upd_same)) rfl rfl rfl rfl ?_ ?_
      · intro m z' hm hz
        rcases m with _ | _ | _ | _ | m
        all_goals first | omega | (cases hz; rfl)
      refine z_ixL (SqL.of upd_same) (atI_nat (j := 0) rfl) ?_
      walk_at "z"
      intro t ht
      obtain ⟨ntb, ht1⟩ := un_fresh ht
      obtain ⟨ntl, ht2⟩ := un_fresh ht1
      obtain ⟨_, ht3⟩ := un_fresh ht2
      exact k t _ ht3 (by walk_at "sa") upd_same
    · walk_at "z"
      refine z_isX ha T.ex_BadText (.own _) T.k_BadText_BadKey ?_
      walk_at "z"
      refine z_isX ha T.ex_BadText (.own _) T.k_BadText_BadText ?_
      walk_at "z"
      refine z_isX ha T.ex_BadText (.own _) T.k_BadText_BadSize ?_
      walk_at "z"
      intro l hl
      have hal := ne_of_none ha hl
      have ha1 : upd H l (.lst [.bl false, .bl true, .bl false]) a = some (XO (.ref (He.ga K "BadText")) none a) := by rw [upd_ne hal]; exact ha
      walk_at "z"
      refine z_isX ha1 T.ex_BadText (.own _) T.k_BadText_BadPlace ?_
      walk_at "z"
      have ha2 : ∀ o, upd (upd H l (.lst [.bl false, .bl true, .bl false])) l o a = some (XO (.ref (He.ga K "BadText")) none a) := fun o => by rw [upd_ne hal]; exact ha1
      refine z_count (SqL.of upd_same) rfl rfl ?_
      walk_at "z"
      refine z_isX (ha2 _) T.ex_BadText (.ty _) T.kv_BadText ?_
      walk_at "z"
      intro b hb
      obtain ⟨nbl, hb1⟩ := un_fresh hb
      obtain ⟨_, hb2⟩ := un_fresh hb1
      walk_at "z"
      refine z_index 1 (z := .bl true) (SqL.of (by rw [upd_ne nbl.symm]; exact upd_same)) rfl rfl rfl rfl ?_ ?_
      · intro m z' hm hz
        rcases m with _ | _ | _ | _ | m
        all_goals first | omega | (cases hz; rfl)
      refine z_ixL (SqL.of upd_same) (atI_nat (j := 1) rfl) ?_
      walk_at "z"
      intro t ht
      obtain ⟨ntb, ht1⟩ := un_fresh ht
      obtain ⟨ntl, ht2⟩ := un_fresh ht1
      obtain ⟨_, ht3⟩ := un_fresh ht2
      exact k t _ ht3 (by walk_at "sa") upd_same
    · walk_at "z"
      refine z_isX ha T.ex_BadSize (.own _) T.k_BadSize_BadKey ?_
      walk_at "z"
      refine z_isX ha T.ex_BadSize (.own _) T.k_BadSize_BadText ?_
      walk_at "z"
      refine z_isX ha T.ex_BadSize (.own _) T.k_BadSize_BadSize ?_
      walk_at "z"
      intro l hl
      have hal := ne_of_none ha hl
      have ha1 : upd H l (.lst [.bl false, .bl false, .bl true]) a = some (XO (.ref (He.ga K "BadSize")) none a) := by rw [upd_ne hal]; exact ha
      walk_at "z"
      refine z_isX ha1 T.ex_BadSize (.own _) T.k_BadSize_BadPlace ?_
      walk_at "z"
      have ha2 : ∀ o, upd (upd H l (.lst [.bl false, .bl false, .bl true])) l o a = some (XO (.ref (He.ga K "BadSize")) none a) := fun o => by rw [upd_ne hal]; exact ha1
      refine z_count (SqL.of upd_same) rfl rfl ?_
      walk_at "z"
      refine z_isX (ha2 _) T.ex_BadSize (.ty _) T.kv_BadSize ?_
      walk_at "z"
      intro b hb
      obtain ⟨nbl, hb1⟩ := un_fresh hb
      obtain ⟨_, hb2⟩ := un_fresh hb1
      walk_at "z"
      refine z_index 2 (z := .bl true) (SqL.of (by rw [upd_ne nbl.symm]; exact upd_same)) rfl rfl rfl rfl ?_ ?_
      · intro m z' hm hz
        rcases m with _ | _ | _ | _ | m
        all_goals first | omega | (cases hz; rfl)
      refine z_ixL (SqL.of upd_same) (atI_nat (j := 2) rfl) ?_
      walk_at "z"
      intro t ht
      obtain ⟨ntb, ht1⟩ := un_fresh ht
      obtain ⟨ntl, ht2⟩ := un_fresh ht1
      obtain ⟨_, ht3⟩ := un_fresh ht2
      exact k t _ ht3 (by walk_at "sa") upd_same
    · walk_at "z"
      refine z_isX ha T.ex_BadPlace (.own _) T.k_BadPlace_BadKey ?_
      walk_at "z"
      refine z_isX ha T.ex_BadPlace (.own _) T.k_BadPlace_BadText ?_
      walk_at "z"
      refine z_isX ha T.ex_BadPlace (.own _) T.k_BadPlace_BadSize ?_
      walk_at "z"
      intro l hl
      have hal := ne_of_none ha hl
      have ha1 : upd H l (.lst [.bl false, .bl false, .bl false]) a = some (XO (.ref (He.ga K "BadPlace")) none a) := by rw [upd_ne hal]; exact ha
      walk_at "z"
      refine z_isX ha1 T.ex_BadPlace (.own _) T.k_BadPlace_BadPlace ?_
      walk_at "z"
      have ha2 : ∀ o, upd (upd H l (.lst [.bl false, .bl false, .bl false])) l o a = some (XO (.ref (He.ga K "BadPlace")) none a) := fun o => by rw [upd_ne hal]; exact ha1
      refine z_count (SqL.of upd_same) rfl rfl ?_
      walk_at "z"
      refine z_isX (ha2 _) T.ex_BadPlace (.ty _) T.kv_BadPlace ?_
      walk_at "z"
      intro b hb
      obtain ⟨nbl, hb1⟩ := un_fresh hb
      obtain ⟨_, hb2⟩ := un_fresh hb1
      walk_at "z"
      refine z_index 3 (z := .bl true) (SqL.of (by rw [upd_ne nbl.symm]; exact upd_same)) rfl rfl rfl rfl ?_ ?_
      · intro m z' hm hz
        rcases m with _ | _ | _ | _ | m
        all_goals first | omega | (cases hz; rfl)
      refine z_ixL (SqL.of upd_same) (atI_nat (j := 3) rfl) ?_
      walk_at "z"
      intro t ht
      obtain ⟨ntb, ht1⟩ := un_fresh ht
      obtain ⟨ntl, ht2⟩ := un_fresh ht1
      obtain ⟨_, ht3⟩ := un_fresh ht2
      exact k t _ ht3 (by walk_at "sa") upd_same
end

theorem sc__law_told : FnScope ["history", "word", "one", "other", "held", "found", "e"] ["history", "word", "one", "other"] (defScope s__law_told) := ⟨rfl, rfl, rfl, by decide +kernel, rfl, by decide +kernel, by decide +kernel⟩
section
variable {P : Program} {w : World} {K : PySem.W.Frag} {mg : Str → Option Value} {base : Heap}
/-- a new tuple ("refused", w) is told -/
def RefQ (H : Hp) (Q : VK) (w : Str) : Prop := ∀ t H', H t = none → Same H H' → H' t = some (.tup [.str "refused", .str w]) → Q (.ref t) H'
def sp_law_told (K : PySem.W.Frag) : Sp := fun vs H Q _ => ∃ (p : Addr) (w : Str) (y : V) (z : Int), vs = [.ref p, .str w, y, .int z] ∧ ∃ (lk ls : Addr) (m s : Int) (ks ss : List Str), HistAt K H p lk ls m ks ss s ∧ ks.length ≤ 1000 ∧ 1 ≤ m ∧ (∀ t ∈ ks, plainS t = true) ∧
  ((∃ x, y = .str x ∧ w = "add" ∧ okText x = true ∧ x.length < sizeLine ∧ ∀ H' lk' ls', (lk' = lk ∨ H lk' = none) → H ls' = none → HistAt K H' p lk' ls' m (addH m x ks) (addH m x ks ++ [("" : Str)]) ((addH m x ks).length : Nat) → Fr [p] H H' → Q .non H') ∨
   (∃ x, y = .str x ∧ w = "add" ∧ okText x = false ∧ x.length < sizeLine ∧ RefQ H Q "text") ∨
   (∃ n, y = .int n ∧ w = "new" ∧ ¬ (1 ≤ n ∧ n ≤ 200) ∧ RefQ H Q "size") ∨
   (∃ (j : Nat) (x : Str), y = .int j ∧ w = "go" ∧ ss[j]? = some x ∧ ∀ H', HistAt K H' p lk ls m ks ss j → Fr [p] H H' → Q (.str x) H') ∨
   (∃ g, y = .int g ∧ w = "go" ∧ ¬ (0 ≤ g ∧ g < ss.length) ∧ RefQ H Q "place") ∨
   (∃ part, y = .str part ∧ w = "find" ∧ -1000000 ≤ z ∧ z ≤ 1000000 ∧ Q (optV (findH ks part z)) H))
theorem f__law_told (T : Tx K mg) : Fn P w K mg base "_law_told" 4 ["history", "word", "one", "other"] (sp_law_told K) := by
  obtain ⟨fd, F⟩ := T.c.d.def_ 15 (d := d__law_told) rfl
  refine ⟨_, fd, F.ok (CX := L2.CX P w) sc__law_told (fun vs H Q E h => ?len) (fun cdv A outer s H vs Q E hr h => ?body), T.g__law_told, F.kp, F.bindsN fun _ _ _ _ _ _ us hl => match us, hl with | [_, _, _, _], _ => rfl, FunD.bindsA F fun _ _ _ _ _ _ us hl => match us, hl with | [_, _, _, _], _ => rfl⟩
  case len => obtain ⟨p, w, y, z, rfl, lk, ls, m, s0, ks, ss, R, hn, hm, hpl, k⟩ := h; rfl
  case body =>
    obtain ⟨p, w, y, z, rfl, lk, ls, m, s0, ks, ss, R, hn, hm, hpl, k⟩ := h
    refine ⟨_, (pss_cons (ps_set (i := 4) sc__law_told.nd rfl (Or.inl rfl) pe_non)
      (pss_cons (ps_set (i := 5) sc__law_told.nd rfl (Or.inl rfl) pe_non)
      (pss_cons (ps_tryT (i := 6) rfl rfl rfl sc__law_told.nd rfl rfl ⟨rfl, by decide, .inl T.g_HandError⟩ tkOf (fun W pn xe tk' _ => (pss_one (ps_if (pt_cmpR op_eq (pv 1) pe_str (nomark _)) (pss_one (ps_set (i := 5) sc__law_told.nd rfl (Or.inl rfl) (pe_mt (pv 0) (m_History_add T) (hr.mono (by decide)) tk' (pa_cons (pv 2) pa_nil)))) (pss_one (ps_if (pt_cmpR op_eq (pv 1) pe_str (nomark _)) (pss_one (ps_set (i := 5) sc__law_told.nd rfl (Or.inl rfl) (pe_cmpR op_isNon (pe_mk (mk_History T) (hr.mono (by decide)) tk' (pa_cons (pv 2) pa_nil)) pe_non (nomark _)))) (pss_one (ps_set (i := 5) sc__law_told.nd rfl (Or.inl rfl) (pe_ifExp (pt_cmpR op_eq (pv 1) pe_str (nomark _)) (pe_mt (pv 0) (m_History_go T) (hr.mono (by decide)) tk' (pa_cons (pv 2) pa_nil)) (pe_mt (pv 0) (m_History_find T) (hr.mono (by decide)) tk' (pa_cons (pv 2) (pa_cons (pv 3) pa_nil))))))))))) (fun a oe cls d pn _ _ => (pss_one (ps_set (i := 4) sc__law_told.nd rfl (Or.inl rfl) (pv 6)))))
      (pss_one (ps_ret (pe_ifExp (pt_cmpR op_isNon (pv 4) pe_non (nomark _)) (pv 5) (pe_fn (f__law_refusal T) (hr.mono (by decide)) tkOf (pa_cons (pv 4) pa_nil)))))))), ?_⟩
    obtain ⟨⟨dx, ho⟩, hk, hsl, hne⟩ := id R
    rcases k with ⟨x, rfl, rfl, ok, hx, k⟩ | ⟨x, rfl, rfl, bad, hx, k⟩ | ⟨n, rfl, rfl, hnn, k⟩ | ⟨j, x, rfl, rfl, hj, k⟩ | ⟨g, rfl, rfl, hg, k⟩ | ⟨part, rfl, rfl, z1, z2, k⟩
    · walk_at "z"
      refine ⟨p, lk, ls, m, s0, ks, ss, x, rfl, R, hx, hn, hm, hpl, fun _ H' lk' ls' a b R' f' => ?_, fun z => by rw [ok] at z; cases z⟩
      walk_at "z"
      exact k _ lk' ls' a b R' f'
    · walk_at "z"
      refine ⟨p, lk, ls, m, s0, ks, ss, x, rfl, R, hx, hn, hm, hpl, fun z => (by rw [bad] at z; cases z), fun _ H1 s1 => ?_⟩
      refine z_wtrk T.e_BadText fun a ha => ?_
      walk_at "z"
      intro ha'
      walk_at "z"
      refine ⟨a, "BadText", "text", rfl, by simp [errs], upd_same, fun t H2 ht s2 h2 => ?_⟩
      exact k t H2 (fresh_of s1 (un_fresh ht).2) (Same.trans (Same.new s1 ha) s2) h2
    · walk_at "z"
      intro q dq hq hdq hnq
      refine ⟨q, dq, n, rfl, upd_same, fun a1 a2 => absurd ⟨a1, a2⟩ hnn, fun _ => ?_⟩
      refine z_wtrk T.e_BadSize fun a ha => ?_
      walk_at "z"
      intro ha'
      walk_at "z"
      have s1 : Same H (upd (upd H dq (.own q)) q (.ins (He.ga K "History") dq [])) := fun b o e => by rw [upd_ne (ne_of_none e hq), upd_ne (ne_of_none e hdq)]; exact e
      refine ⟨a, "BadSize", "size", rfl, by simp [errs], upd_same, fun t H2 ht s2 h2 => ?_⟩
      exact k t H2 (fresh_of s1 (un_fresh ht).2) (Same.trans (Same.new s1 ha) s2) h2
    · walk_at "z"
      have hjl : j < ss.length := (List.getElem?_eq_some_iff.mp hj).1
      refine ⟨p, lk, ls, m, s0, j, ks, ss, rfl, R, fun j' y ej hy H' R' f' => ?_, fun z => absurd (by omega) z⟩
      have : j' = j := by omega
      subst this
      rw [hj] at hy; cases hy
      walk_at "z"
      exact k _ R' f'
    · walk_at "z"
      refine ⟨p, lk, ls, m, s0, g, ks, ss, rfl, R, fun j' y ej hy H' R' f' => absurd (by have := (List.getElem?_eq_some_iff.mp hy).1; omega) hg, fun _ => ?_⟩
      refine z_wtrk T.e_BadPlace fun a ha => ?_
      walk_at "z"
      intro ha'
      walk_at "z"
      refine ⟨a, "BadPlace", "place", rfl, by simp [errs], upd_same, fun t H2 ht s2 h2 => ?_⟩
      exact k t H2 (un_fresh ht).2 (Same.trans (Same.new (Same.refl H) ha) s2) h2
    · walk_at "z"
      refine ⟨p, lk, ls, m, s0, z, ks, ss, part, rfl, R, by omega, z1, z2, ?_⟩
      walk_at "z"
      exact k
end

theorem sc__law_bad : FnScope ["history", "some"] ["history"] (defScope s__law_bad) := ⟨rfl, rfl, rfl, by decide +kernel, rfl, by decide +kernel, by decide +kernel⟩
section
variable {P : Program} {w : World} {K : PySem.W.Frag} {mg : Str → Option Value} {base : Heap}
def sp_law_bad (K : PySem.W.Frag) : Sp := fun vs H Q _ => ∃ (p lk ls : Addr) (m s : Int) (ks ss : List Str), vs = [.ref p] ∧ HistAt K H p lk ls m ks ss s ∧ ks.length ≤ 1000 ∧ 1 ≤ m ∧ (∀ t ∈ ks, plainS t = true) ∧ ∀ H', Q (.bl true) H'
theorem f__law_bad (T : Tx K mg) : Fn P w K mg base "_law_bad" 5 ["history"] (sp_law_bad K) := by
  obtain ⟨fd, F⟩ := T.c.d.def_ 16 (d := d__law_bad) rfl
  refine ⟨_, fd, F.ok (CX := L2.CX P w) sc__law_bad (fun vs H Q E h => ?len) (fun cdv A outer s H vs Q E hr h => ?body), T.g__law_bad, F.kp, F.bindsN fun _ _ _ _ _ _ us hl => match us, hl with | [_], _ => rfl, FunD.bindsA F fun _ _ _ _ _ _ us hl => match us, hl with | [_], _ => rfl⟩
  case len => obtain ⟨p, lk, ls, m, s0, ks, ss, rfl, R, hn, hm, hpl, k⟩ := h; rfl
  case body =>
    obtain ⟨p, lk, ls, m, s0, ks, ss, rfl, R, hn, hm, hpl, k⟩ := h
    have hu64 := hr.units
    refine ⟨_, (pss_cons (ps_set (i := 1) sc__law_bad.nd rfl (Or.inl rfl) (pe_lst (pa_cons (pe_fn (f__law_told T) (hr.mono (by decide)) tkOf (pa_cons (pv 0) (pa_cons pe_str (pa_cons pe_int (pa_cons pe_int pa_nil))))) (pa_cons (pe_fn (f__law_told T) (hr.mono (by decide)) tkOf (pa_cons (pv 0) (pa_cons pe_str (pa_cons pe_int (pa_cons pe_int pa_nil))))) pa_nil))))
      (pss_cons (ps_set (i := 1) sc__law_bad.nd rfl (Or.inl rfl) (pe_op op_cat (pv 1) (pe_lst (pa_cons (pe_fn (f__law_told T) (hr.mono (by decide)) tkOf (pa_cons (pv 0) (pa_cons pe_str (pa_cons pe_str (pa_cons pe_int pa_nil))))) (pa_cons (pe_fn (f__law_told T) (hr.mono (by decide)) tkOf (pa_cons (pv 0) (pa_cons pe_str (pa_cons (pe_un un_neg pe_int) (pa_cons pe_int pa_nil))))) pa_nil)))))
      (pss_one (ps_ret (pe_cmpR (op_eqDK (K := K) rfl hu64) (pv 1) (pe_lst (pa_cons (pe_tup (pa_cons pe_str (pa_cons pe_str pa_nil))) (pa_cons (pe_tup (pa_cons pe_str (pa_cons pe_str pa_nil))) (pa_cons (pe_tup (pa_cons pe_str (pa_cons pe_str pa_nil))) (pa_cons (pe_tup (pa_cons pe_str (pa_cons pe_str pa_nil))) pa_nil))))) (nomark _)))))), ?_⟩
    walk_at "z"
    refine ⟨p, "new", .int 0, 0, rfl, lk, ls, m, s0, ks, ss, R, hn, hm, hpl, .inr (.inr (.inl ⟨0, rfl, rfl, by decide, fun t1 H1 _ s1 h1 => ?_⟩))⟩
    walk_at "z"
    refine ⟨p, "new", .int 201, 0, rfl, lk, ls, m, s0, ks, ss, R.same s1, hn, hm, hpl, .inr (.inr (.inl ⟨201, rfl, rfl, by decide, fun t2 H2 _ s2 h2 => ?_⟩))⟩
    have s12 := Same.trans s1 s2
    walk_at "z"
    intro b1 hb1
    have sb1 := Same.new s12 hb1 (o := .lst [.ref t1, .ref t2])
    have sb1' := Same.new (Same.refl H2) hb1 (o := .lst [.ref t1, .ref t2])
    have e1 := sb1' _ _ (s2 _ _ h1)
    have e2 := sb1' _ _ h2
    have eb1 : upd H2 b1 (.lst [.ref t1, .ref t2]) b1 = some (.lst [.ref t1, .ref t2]) := upd_same
    generalize upd H2 b1 (HO.lst [.ref t1, .ref t2]) = H3 at *
    walk_at "z"
    refine ⟨p, "add", .str "\n", 0, rfl, lk, ls, m, s0, ks, ss, R.same sb1, hn, hm, hpl, .inr (.inl ⟨"\n", rfl, rfl, by decide +kernel, by rw [sizeLine_eq]; decide +kernel, fun t3 H4 _ s4 h4 => ?_⟩)⟩
    walk_at "z"
    refine ⟨p, "go", .int (-1), 0, rfl, lk, ls, m, s0, ks, ss, R.same (Same.trans sb1 s4), hn, hm, hpl, .inr (.inr (.inr (.inr (.inl ⟨-1, rfl, rfl, by omega, fun t4 H5 _ s5 h5 => ?_⟩))))⟩
    have f1 := s5 _ _ (s4 _ _ e1)
    have f2 := s5 _ _ (s4 _ _ e2)
    have f3 := s5 _ _ h4
    have fb1 := s5 _ _ (s4 _ _ eb1)
    walk_at "z"
    intro b2 hb2
    have n12 := ne_of_none fb1 hb2
    walk_at "z"
    intro b3 hb3
    have s6 : Same H5 (upd (upd H5 b2 (.lst [.ref t3, .ref t4])) b3 (.lst ([.ref t1, .ref t2] ++ [.ref t3, .ref t4]))) := by walk_at "sa"
    have g1 := s6 _ _ f1
    have g2 := s6 _ _ f2
    have g3 := s6 _ _ f3
    have g4 := s6 _ _ h5
    have gb : upd (upd H5 b2 (.lst [.ref t3, .ref t4])) b3 (.lst ([.ref t1, .ref t2] ++ [.ref t3, .ref t4])) b3 = some (.lst [.ref t1, .ref t2, .ref t3, .ref t4]) := upd_same
    generalize upd (upd H5 b2 (HO.lst [.ref t3, .ref t4])) b3 (HO.lst ([.ref t1, .ref t2] ++ [.ref t3, .ref t4])) = H6 at *
    walk_at "z"
    intro c1 hc1
    walk_at "z"
    intro c2 hc2
    walk_at "z"
    intro c3 hc3
    walk_at "z"
    intro c4 hc4
    walk_at "z"
    intro c5 hc5
    obtain ⟨n54, c5a⟩ := un_fresh hc5
    obtain ⟨n53, c5b⟩ := un_fresh c5a
    obtain ⟨n52, c5c⟩ := un_fresh c5b
    obtain ⟨n51, c5d⟩ := un_fresh c5c
    obtain ⟨n43, c4b⟩ := un_fresh hc4
    obtain ⟨n42, c4c⟩ := un_fresh c4b
    obtain ⟨n41, c4d⟩ := un_fresh c4c
    obtain ⟨n32, c3c⟩ := un_fresh hc3
    obtain ⟨n31, c3d⟩ := un_fresh c3c
    obtain ⟨n21, c2d⟩ := un_fresh hc2
    refine z_eqS (d := .list [refD "size", refD "size", refD "text", refD "place"]) ?_ ?_ (by decide +kernel) (k _)
    · have s7 := Same.new (Same.new (Same.new (Same.new (Same.new (Same.refl H6) hc1) hc2) hc3) hc4) hc5 (o := .lst [.ref c1, .ref c2, .ref c3, .ref c4])
      exact .lst (SqL.of (s7 _ _ gb)) (.cons (dp_ref (s7 _ _ g1)) (.cons (dp_ref (s7 _ _ g2)) (.cons (dp_ref (s7 _ _ g3)) (.cons (dp_ref (s7 _ _ g4)) .nil))))
    · exact .lst (SqL.of upd_same) (.cons (dp_ref (by walk_at "h")) (.cons (dp_ref (by walk_at "h")) (.cons (dp_ref (by walk_at "h")) (.cons (dp_ref (by walk_at "h")) .nil))))
end

theorem sc_law : FnScope ["script", "town", "most", "history", "kept", "shown", "here", "k", "way", "text", "goal", "due", "part", "spot", "some", "j"] ["script"] (defScope s_law) := ⟨rfl, rfl, rfl, by decide +kernel, rfl, by decide +kernel, by decide +kernel⟩
section
variable {P : Program} {w : World} {K : PySem.W.Frag} {mg : Str → Option Value} {base : Heap}
/-- what the law has: the script, the town, the program's history, its own kept and shown -/
structure Lw (K : PySem.W.Frag) (H : Hp) (a t p lk ls qk qs : Addr) (ns : List Int) (n : Nat) (m : Int) (ks ss ks' ss' : List Str) (s : Int) : Prop where
  scr : Scr K H a ns
  tw : ∃ zs, H t = some (.lst zs) ∧ zs.length ≤ n
  hi : HistAt K H p lk ls m ks ss s
  kq : H qk = some (.lst (ks'.map V.str))
  sq : H qs = some (.lst (ss'.map V.str))
  nt : lk ≠ t ∧ ls ≠ t ∧ qk ≠ t ∧ qs ≠ t
  ns' : lk ≠ qs ∧ ls ≠ qs ∧ qk ≠ qs
  nl : qk ≠ ls
section
variable {H H' : Hp} {a t p lk ls qk qs : Addr} {ns : List Int} {n : Nat} {m : Int} {ks ss ks' ss' : List Str} {s : Int}
theorem Lw.same (L : Lw K H a t p lk ls qk qs ns n m ks ss ks' ss' s) (h : Same H H') : Lw K H' a t p lk ls qk qs ns n m ks ss ks' ss' s :=
  ⟨L.scr.same h, let ⟨zs, e, hz⟩ := L.tw; ⟨zs, h _ _ e, hz⟩, L.hi.same h, h _ _ L.kq, h _ _ L.sq, L.nt, L.ns', L.nl⟩
theorem Lw.pt (L : Lw K H a t p lk ls qk qs ns n m ks ss ks' ss' s) : p ≠ t ∧ p ≠ lk ∧ p ≠ ls ∧ p ≠ qk ∧ p ≠ qs := by
  obtain ⟨zs, tz, _⟩ := L.tw
  obtain ⟨⟨dx, ho⟩, hk, hsl, _⟩ := L.hi
  exact ⟨ne_of ho tz (by intro z; cases z), ne_of ho hk (by intro z; cases z), ne_of ho hsl (by intro z; cases z), ne_of ho L.kq (by intro z; cases z), ne_of ho L.sq (by intro z; cases z)⟩
theorem Lw.draw {zs : List V} {v : V} (L : Lw K H a t p lk ls qk qs ns n m ks ss ks' ss' s) (e : H t = some (.lst zs)) (e1 : H' t = some (.lst (zs ++ [v]))) (f : Fr [t] H H') : Lw K H' a t p lk ls qk qs ns (n + 1) m ks ss ks' ss' s := by
  obtain ⟨zs', e', hz⟩ := L.tw
  rw [e] at e'; cases e'
  obtain ⟨h1, h2, h3, h4⟩ := L.nt
  exact ⟨L.scr.fr f (by simpa using Mu.lst e), ⟨_, e1, by simp; omega⟩, L.hi.fr f (not_mem1 L.pt.1) (not_mem1 h1) (not_mem1 h2), f _ _ L.kq (not_mem1 h3), f _ _ L.sq (not_mem1 h4), L.nt, L.ns', L.nl⟩
theorem Lw.mono {n' : Nat} (L : Lw K H a t p lk ls qk qs ns n m ks ss ks' ss' s) (h : n ≤ n') : Lw K H a t p lk ls qk qs ns n' m ks ss ks' ss' s :=
  ⟨L.scr, let ⟨zs, e, hz⟩ := L.tw; ⟨zs, e, by omega⟩, L.hi, L.kq, L.sq, L.nt, L.ns', L.nl⟩
/-- the law's own kept and shown are others -/
theorem Lw.swap {qk2 qs2 : Addr} {ks2 ss2 : List Str} (L : Lw K H a t p lk ls qk qs ns n m ks ss ks' ss' s) (h : Same H H') (h1 : qk2 = qk ∨ H qk2 = none) (h2 : H qs2 = none) (h3 : qk2 ≠ qs2) (e1 : H' qk2 = some (.lst (ks2.map V.str))) (e2 : H' qs2 = some (.lst (ss2.map V.str))) : Lw K H' a t p lk ls qk2 qs2 ns n m ks ss ks2 ss2 s := by
  have L' := L.same h
  obtain ⟨zs, tz, hz⟩ := L.tw
  obtain ⟨_, hk, hsl, _⟩ := L.hi
  refine ⟨L'.scr, L'.tw, L'.hi, e1, e2, ⟨L.nt.1, L.nt.2.1, ?_, (ne_of_none tz h2).symm⟩, ⟨ne_of_none hk h2, ne_of_none hsl h2, h3⟩, ?_⟩
  · rcases h1 with rfl | h
    · exact L.nt.2.2.1
    · exact (ne_of_none tz h).symm
  · rcases h1 with rfl | h
    · exact L.nl
    · exact (ne_of_none hsl h).symm
/-- the program's history was told something: its object, its lists may be others -/
theorem Lw.op {lk2 ls2 : Addr} {ks2 ss2 : List Str} {s2 : Int} (L : Lw K H a t p lk ls qk qs ns n m ks ss ks' ss' s) (f : Fr [p, ls] H H') (R : HistAt K H' p lk2 ls2 m ks2 ss2 s2) (h1 : lk2 = lk ∨ H lk2 = none) (h2 : ls2 = ls ∨ H ls2 = none) : Lw K H' a t p lk2 ls2 qk qs ns n m ks2 ss2 ks' ss' s2 := by
  obtain ⟨zs, tz, hz⟩ := L.tw
  obtain ⟨⟨dx, ho⟩, hk, hsl, hne⟩ := id L.hi
  obtain ⟨p1, p2, p3, p4, p5⟩ := L.pt
  obtain ⟨t1, t2, t3, t4⟩ := L.nt
  obtain ⟨q1, q2, q3⟩ := L.ns'
  refine ⟨L.scr.fr f (by simp; exact ⟨Mu.ins ho, Mu.lst hsl⟩), ⟨zs, f _ _ tz (not_mem2 p1.symm t2.symm), hz⟩, R, f _ _ L.kq (not_mem2 p4.symm L.nl), f _ _ L.sq (not_mem2 p5.symm q2.symm), ⟨?_, ?_, t3, t4⟩, ⟨?_, ?_, q3⟩, ?_⟩
  · rcases h1 with rfl | h
    · exact t1
    · exact (ne_of_none tz h).symm
  · rcases h2 with rfl | h
    · exact t2
    · exact (ne_of_none tz h).symm
  · rcases h1 with rfl | h
    · exact q1
    · exact (ne_of_none L.sq h).symm
  · rcases h2 with rfl | h
    · exact q2
    · exact (ne_of_none L.sq h).symm
  · rcases h2 with rfl | h
    · exact L.nl
    · exact ne_of_none L.kq h
theorem Lw.put {ss2 : List Str} (L : Lw K H a t p lk ls qk qs ns n m ks ss ks' ss' s) : Lw K (upd H qs (.lst (ss2.map V.str))) a t p lk ls qk qs ns n m ks ss ks' ss2 s := by
  obtain ⟨zs, tz, hz⟩ := L.tw
  have f : Fr [qs] H (upd H qs (.lst (ss2.map V.str))) := Fr.upd Fr.refl (by simp)
  exact ⟨L.scr.upd (Mu.lst L.sq), ⟨zs, f _ _ tz (not_mem1 L.nt.2.2.2.symm), hz⟩, L.hi.fr f (not_mem1 L.pt.2.2.2.2) (not_mem1 L.ns'.1) (not_mem1 L.ns'.2.1), f _ _ L.kq (not_mem1 L.ns'.2.2), upd_same, L.nt, L.ns', L.nl⟩
end
theorem tk_ok : ∀ i : Nat, i < 31 → okText (Str.ofString "t" ++ Str.ofString (toString (0 + (i : Int)))) = true ∧ (Str.ofString "t" ++ Str.ofString (toString (0 + (i : Int)))).length ≤ 4 := by decide +kernel
theorem menu_ok {i : Nat} (hi : i < 31) {x : Str} (h : x ∈ ([Str.ofString "", Str.ofString "one", Str.ofString "two", Str.ofString "one two", Str.ofString "t" ++ Str.ofString (toString (0 + (i : Int)))] : List Str)) : okText x = true ∧ x.length ≤ 7 := by
  simp only [List.mem_cons, List.not_mem_nil, or_false] at h
  rcases h with rfl | rfl | rfl | rfl | rfl
  · decide +kernel
  · decide +kernel
  · decide +kernel
  · decide +kernel
  · exact ⟨(tk_ok i hi).1, Nat.le_trans (tk_ok i hi).2 (by decide)⟩
theorem addH_all {m : Int} {x : Str} {ks : List Str} {P : Str → Prop} (hx : P x) (h : ∀ t ∈ ks, P t) : ∀ t ∈ addH m x ks, P t := by
  intro t ht
  unfold addH at ht
  split at ht
  · exact h t ht
  · rcases List.mem_append.mp (List.mem_of_mem_drop ht) with z | z
    · exact h t z
    · rw [List.mem_singleton.mp z]; exact hx
theorem addH_len {m : Int} {x : Str} {ks : List Str} (hm : m ≤ 6) (h : ks.length ≤ 6) : (addH m x ks).length ≤ 6 := by
  unfold addH
  split
  · exact h
  · rw [List.length_drop]; omega
/-- between two turns -/
def Iv (K : PySem.W.Frag) (a t p : Addr) (ns : List Int) (d : Int) (i : Nat) (σ : L2.St) (H : Hp) : Prop := ∃ (lk ls qk qs : Addr) (ks ss : List Str) (s : Nat) (v7 v8 v9 v10 v11 v12 v13 v14 v15 : Option V), σ = [some (.ref a), some (.ref t), some (.int (1 + d)), some (.ref p), some (.ref qk), some (.ref qs), some (.int s), v7, v8, v9, v10, v11, v12, v13, v14, v15] ∧ Lw K H a t p lk ls qk qs ns (2 + 4 * i) (1 + d) ks ss ks ss s ∧ ss.length = ks.length + 1 ∧ s ≤ ks.length ∧ ks.length ≤ 6 ∧ (∀ x ∈ ks, plainS x = true) ∧ ∀ x ∈ ss, plainS x = true
def sp_law (K : PySem.W.Frag) : Sp := fun vs H Q _ => ∃ (a : Addr) (ns : List Int), vs = [.ref a] ∧ Scr K H a ns ∧ ∀ H', Q (.bl true) H'

theorem f_law {K : PySem.W.Frag} {mg : Str → Option Value} (T : Tx K mg) : ∃ fd : FuncData, (∀ (s : Shared) (us : List Value), us.length = 1 → BindsTo s fd ⟨us, []⟩ ([("script" : Str)].zip us)) ∧ ∀ (P : Program) (w : World) (base : Heap), FnOk P w K mg base (L2.CX P w) 6 (He.ga K "law") fd ["script"] (sp_law K) := by
  obtain ⟨fd, F⟩ := T.c.d.def_ 17 (d := d_law) rfl
  refine ⟨fd, FunD.bindsA (ps := ["script"]) F fun _ _ _ _ _ _ us hl => match us, hl with | [_], _ => rfl, fun P w base => F.ok (CX := L2.CX P w) sc_law (fun vs H Q E h => ?len) (fun cdv A outer s H vs Q E hr h => ?body)⟩
  case len => obtain ⟨a, ns, rfl, hs, k⟩ := h; rfl
  case body =>
    obtain ⟨a, ns, rfl, hs, k⟩ := h
    have hu64 := hr.units
    refine ⟨_, (pss_cons (ps_set (i := 1) sc_law.nd rfl (Or.inl rfl) (pe_lst pa_nil))
      (pss_cons (ps_set (i := 2) sc_law.nd rfl (Or.inl rfl) (pe_op op_add pe_int (pe_fn (f__law_draw T) (hr.mono (by decide)) tkOf (pa_cons (pv 0) (pa_cons (pv 1) (pa_cons pe_int pa_nil))))))
      (pss_cons (ps_set (i := 3) sc_law.nd rfl (Or.inl rfl) (pe_mk (mk_History T) (hr.mono (by decide)) tkOf (pa_cons (pv 2) pa_nil)))
      (pss_cons (ps_set (i := 4) sc_law.nd rfl (Or.inr rfl) (pe_lst pa_nil))
      (pss_cons (ps_set (i := 5) sc_law.nd rfl (Or.inl rfl) (pe_lst (pa_cons pe_str pa_nil)))
      (pss_cons (ps_set (i := 6) sc_law.nd rfl (Or.inl rfl) pe_int)
      (pss_cons (ps_for passOf rfl (pi_range1 rfl T.n_range (pa_cons (pe_fn (f__law_draw T) (hr.mono (by decide)) tkOf (pa_cons (pv 0) (pa_cons (pv 1) (pa_cons pe_int pa_nil)))) pa_nil)) (pg_name (i := 7) sc_law.nd rfl (Or.inl rfl)) (pss_cons (ps_set (i := 8) sc_law.nd rfl (Or.inl rfl) (pe_fn (f__law_draw T) (hr.mono (by decide)) tkOf (pa_cons (pv 0) (pa_cons (pv 1) (pa_cons pe_int pa_nil)))))
      (pss_cons (ps_set (i := 9) sc_law.nd rfl (Or.inl rfl) (pe_fn (f__law_pick T) (hr.mono (by decide)) tkOf (pa_cons (pv 0) (pa_cons (pv 1) (pa_cons (pe_lst (pa_cons pe_str (pa_cons pe_str (pa_cons pe_str (pa_cons pe_str (pa_cons (pe_op op_addS pe_str (pe_callTy call_si rfl T.n_str (by decide +kernel) (pa_cons (pv 7) pa_nil))) pa_nil)))))) pa_nil)))))
      (Evl.pss_cut (ps_if (pt_cmpR op_lt (pv 8) pe_int (nomark _)) (Evl.pss_cut (ps_if (PW.pt (pw_and (pt_cmpR op_ne (pv 9) pe_str (nomark _)) (pw_and1 (pt_cmpR (op_neDK (K := K) rfl hu64) (pe_slice (sl_listK (K := K) rfl) (pv 4) (po_some (pe_un un_neg pe_int)) po_none) (pe_lst (pa_cons (pv 9) pa_nil)) (nomark _))))) (pss_one (ps_set (i := 4) sc_law.nd rfl (Or.inr rfl) (pe_slice (sl_listK (K := K) rfl) (pe_op op_cat (pv 4) (pe_lst (pa_cons (pv 9) pa_nil))) (po_some (pe_un un_neg (pv 2))) po_none))) pss_nil)
      (pss_cons (ps_set (i := 5) sc_law.nd rfl (Or.inl rfl) (pe_op op_cat (pv 4) (pe_lst (pa_cons pe_str pa_nil))))
      (pss_cons (ps_set (i := 6) sc_law.nd rfl (Or.inl rfl) (pe_callB (call_lnK (K := K) rfl) rfl T.n_len boot_len (pa_cons (pv 4) pa_nil)))
      (pss_one (ps_if (pt_cmpR op_notNon (pe_fn (f__law_told T) (hr.mono (by decide)) tkOf (pa_cons (pv 3) (pa_cons pe_str (pa_cons (pv 9) (pa_cons pe_int pa_nil))))) pe_non (nomark _)) (pss_one (ps_ret pe_bl)) pss_nil))))) (pss_one (ps_if (pt_cmpR op_lt (pv 8) pe_int (nomark _)) (pss_cons (ps_set (i := 10) sc_law.nd rfl (Or.inl rfl) (pe_fn (f__law_draw T) (hr.mono (by decide)) tkOf (pa_cons (pv 0) (pa_cons (pv 1) (pa_cons (pe_op op_add (pe_callB (call_lnK (K := K) rfl) rfl T.n_len boot_len (pa_cons (pv 4) pa_nil)) pe_int) pa_nil)))))
      (pss_cons (ps_set (i := 11) sc_law.nd rfl (Or.inl rfl) (pe_tup (pa_cons pe_str (pa_cons pe_str pa_nil))))
      (pss_cons (ps_if (pt_cmpR op_le (pv 10) (pe_callB (call_lnK (K := K) rfl) rfl T.n_len boot_len (pa_cons (pv 4) pa_nil)) (nomark _)) (pss_cons (ps_set (i := 6) sc_law.nd rfl (Or.inl rfl) (pv 10))
      (pss_one (ps_set (i := 11) sc_law.nd rfl (Or.inl rfl) (pe_ix (ix_listK (K := K) rfl) (pv 5) (pv 10) (fun _ _ => rfl))))) pss_nil)
      (pss_one (ps_if (pt_cmpR (op_neDK (K := K) rfl hu64) (pe_fn (f__law_told T) (hr.mono (by decide)) tkOf (pa_cons (pv 3) (pa_cons pe_str (pa_cons (pv 10) (pa_cons pe_int pa_nil))))) (pv 11) (nomark _)) (pss_one (ps_ret pe_bl)) pss_nil))))) (pss_one (ps_if (pt_cmpR op_eq (pv 8) pe_int (nomark _)) (pss_cons (ps_asg (pv 9) (pg_sub (pv 5) (pv 6) set_list))
      (pss_one (ps_expr (pe_mt (pv 3) (m_History_keep T) (hr.mono (by decide)) tkOf (pa_cons (pv 9) pa_nil))))) (pss_cons (ps_set (i := 12) sc_law.nd rfl (Or.inr rfl) (pe_fn (f__law_pick T) (hr.mono (by decide)) tkOf (pa_cons (pv 0) (pa_cons (pv 1) (pa_cons (pe_lst (pa_cons pe_str (pa_cons pe_str (pa_cons pe_str (pa_cons pe_str (pa_cons pe_str (pa_cons pe_str pa_nil))))))) pa_nil)))))
      (pss_cons (ps_set (i := 13) sc_law.nd rfl (Or.inr rfl) (pe_op op_sub (pe_fn (f__law_draw T) (hr.mono (by decide)) tkOf (pa_cons (pv 0) (pa_cons (pv 1) (pa_cons (pe_op op_add (pe_callB (call_lnK (K := K) rfl) rfl T.n_len boot_len (pa_cons (pv 4) pa_nil)) pe_int) pa_nil)))) pe_int))
      (pss_cons (ps_setLc (i := 14) (own := [("j", 15)]) rfl sc_law.nd rfl rfl (sw_true rfl rfl rfl (by decide +kernel)) (pi_range1 rfl T.n_range (pa_cons (pe_callB (call_lnK (K := K) rfl) rfl T.n_len boot_len (pa_cons (pv 4) pa_nil)) pa_nil)) (blkOk_by (N := ["script", "town", "most", "history", "kept", "shown", "here", "k", "way", "text", "goal", "due", "part", "spot", "some", "j"]) (sc := defScope s_law) (by decide +kernel)) (fun _ _ _ _ _ => (pg_name (i := 15) sc_law.nd rfl (Or.inl rfl))) (fun _ _ _ _ _ => (pts_one (PW.pt (pw_and (pt_cmpR op_le (pv 15) (pv 13) (nomark _)) (pw_and1 (pt_cmpR op_inStr (pv 12) (pe_ix (ix_listK (K := K) rfl) (pv 4) (pv 15) (fun _ _ => rfl)) rfl)))))) (fun _ _ _ _ _ => (pv 15)))
      (pss_one (ps_if (pt_cmpR (op_neDK (K := K) rfl hu64) (pe_fn (f__law_told T) (hr.mono (by decide)) tkOf (pa_cons (pv 3) (pa_cons pe_str (pa_cons (pv 12) (pa_cons (pv 13) pa_nil))))) (pe_ifExp (pt_cmpR (op_neDK (K := K) rfl hu64) (pv 14) (pe_lst pa_nil) (nomark _)) (pe_ix (ix_listK (K := K) rfl) (pv 14) (pe_un un_neg pe_int) (fun _ _ => rfl)) pe_non) (nomark _)) (pss_one (ps_ret pe_bl)) pss_nil))))))))))
      (pss_one (ps_if (PW.pt (pw_or (pt_cmpR (op_neDK (K := K) rfl hu64) (pe_mt0 (pv 3) (m_History_all_lines T) (hr.mono (by decide)) tkOf) (pv 4) (nomark _)) (pw_or (pt_cmpR op_ne (pe_mt0 (pv 3) (m_History_here T) (hr.mono (by decide)) tkOf) (pv 6) (nomark _)) (pw_or1 (pt_cmpR op_ne (pe_mt0 (pv 3) (m_History_many T) (hr.mono (by decide)) tkOf) (pe_callB (call_lnK (K := K) rfl) rfl T.n_len boot_len (pa_cons (pv 4) pa_nil)) (nomark _)))))) (pss_one (ps_ret pe_bl)) pss_nil))))))
      (pss_one (ps_ret (pe_fn (f__law_bad T) (hr.mono (by decide)) tkOf (pa_cons (pv 3) pa_nil))))))))))), ?_⟩
    walk_at "z"
    intro t ht
    have hs1 := hs.same (Same.new (Same.refl H) ht (o := .lst []))
    walk_at "z"
    refine ⟨a, t, ns, [], 6, rfl, hs1, upd_same, by simp, by decide, fun d H1 d0 d1 t1 f1 => ?_⟩
    have hs2 : Scr K H1 a ns := hs1.fr f1 (by simpa using Mu.lst upd_same)
    clear hs1 f1
    walk_at "z"
    intro p dx hp hdx hne
    have s0 : Same H1 (upd (upd H1 dx (.own p)) p (.ins (He.ga K "History") dx [])) := fun b o e => by rw [upd_ne (ne_of_none e hp), upd_ne (ne_of_none e hdx)]; exact e
    refine ⟨p, dx, 1 + d, rfl, upd_same, fun _ _ H2 lk ls hlk hls R f2 => ⟨rfl, ?_⟩, fun z => absurd (by omega) z⟩
    have s2 : Same H1 H2 := Fr.drop s0 f2 (by simpa using hp)
    have t2 := s2 _ _ t1
    have hs3 := hs2.same s2
    have nk := (ne_of_none (s0 _ _ t1) hlk).symm
    have nls := (ne_of_none (s0 _ _ t1) hls).symm
    clear hlk hls f2 s0
    walk_at "z"
    intro qk hqk
    walk_at "z"
    intro qs hqs
    obtain ⟨nqq, hqs'⟩ := un_fresh hqs
    have sq : Same H2 (upd (upd H2 qk (.lst [])) qs (.lst [.str ""])) := by walk_at "sa"
    have L0 : Lw K (upd (upd H2 qk (.lst [])) qs (.lst [.str ""])) a t p lk ls qk qs ns 1 (1 + d) [] [("" : Str)] [] [("" : Str)] 0 := ⟨hs3.same sq, ⟨_, sq _ _ t2, by simp⟩, R.same sq, by rw [upd_ne nqq.symm, upd_same]; rfl, upd_same, ⟨nk, nls, (ne_of_none t2 hqk).symm, (ne_of_none t2 hqs').symm⟩, ⟨ne_of_none R.kl hqs', ne_of_none R.sl hqs', nqq.symm⟩, (ne_of_none R.sl hqk).symm⟩
    generalize upd (upd H2 qk (HO.lst [])) qs (HO.lst [V.str (Str.ofString "")]) = H3 at L0
    clear sq hs3 t2 s2 R hqk hqs hqs'
    walk_at "z"
    obtain ⟨zs, tz, hz⟩ := L0.tw
    refine ⟨a, t, ns, zs, 31, rfl, L0.scr, tz, by omega, by decide, fun e H4 e0 e1 t4 f4 => ?_⟩
    have L4 := L0.draw tz t4 f4
    clear L0 f4 tz
    walk_at "z"
    refine z_rng1e (by omega) (by omega) ?_
    obtain ⟨n, rfl⟩ := Int.eq_ofNat_of_zero_le e0
    have hn : n < 31 := by omega
    refine fg_range (Iv K a t p ns d) ?_ ?_ ?_
    · exact ⟨lk, ls, qk, qs, [], [("" : Str)], 0, none, none, none, none, none, none, none, none, none, rfl, L4, rfl, Nat.le_refl _, by decide, by simp, by simp; decide +kernel⟩
    · rintro i σ H5 hi ⟨lk, ls, qk, qs, ks, ss, s, v7, v8, v9, v10, v11, v12, v13, v14, v15, rfl, L5, el, sl, kl, kp, sp⟩
      have hi31 : i < 31 := by omega
      obtain ⟨zs, tz, hz⟩ := L5.tw
      walk_at "z"
      refine ⟨a, t, ns, zs, 8, rfl, L5.scr, tz, by omega, by decide, fun wy H6 w0 w1 t6 f6 => ?_⟩
      have L6 := L5.draw tz t6 f6
      clear f6 tz L5
      walk_at "z"
      refine z_si (si_ok (by omega)) ?_
      have tk := tk_ok i hi31
      walk_at "z"
      refine z_addS (by have := tk.2; rw [len_app] at this; rw [sizeLine_eq]; omega) ?_
      walk_at "z"
      intro b2 hb2
      have sb2 := Same.new (Same.refl H6) hb2 (o := .lst [.str "", .str "one", .str "two", .str "one two", .str (Str.ofString "t" ++ Str.ofString (toString (0 + (i : Int))))])
      have nb2 := (ne_of_none t6 hb2).symm
      walk_at "z"
      refine ⟨a, t, b2, ns, _, _, rfl, (L6.same sb2).scr, sb2 _ _ t6, by simp; omega, upd_same, by simp, nb2, fun v hv H7 t7 f7 => ?_⟩
      obtain ⟨x, hx1, rfl⟩ := mem_strs (ws := [Str.ofString "", Str.ofString "one", Str.ofString "two", Str.ofString "one two", Str.ofString "t" ++ Str.ofString (toString (0 + (i : Int)))]) hv
      obtain ⟨okx, lnx⟩ := menu_ok hi31 hx1
      have plx := plain_ok okx
      have L7 := (L6.same sb2).draw (sb2 _ _ t6) t7 f7
      clear sb2 nb2 hv hb2 f7 L6 t6 hx1 tk
      walk_at "z"
      refine z_cut (Iv K a t p ns d (i + 1)) ?_ ?_
      · walk_at "z"
        refine ite_b (fun h1 => ?_) (fun h1 => ?_)
        · clear h1
          have kq := L7.kq
          refine z_cut (fun σ' H' => ∃ qk2, σ' = [some (.ref a), some (.ref t), some (.int (1 + d)), some (.ref p), some (.ref qk2), some (.ref qs), some (.int s), some (.int (0 + i)), some (.int wy), some (.str x), v10, v11, v12, v13, v14, v15] ∧ (qk2 = qk ∨ H7 qk2 = none) ∧ Same H7 H' ∧ H' qk2 = some (.lst ((addH (1 + d) x ks).map V.str))) ?_ ?_
          · walk_at "z"
            refine ite_b (fun h1 => ?_) (fun h1 => ?_)
            · have ne : ¬ x = "" := by simpa using h1
              walk_at "z"
              intro b1 hb1
              walk_at "z"
              intro b3 hb3
              obtain ⟨n31, hb3'⟩ := un_fresh hb3
              have e1 : cutV (ks.map V.str) (some (-1)) none = (cutL ks (some (-1)) none).map V.str := by rw [cutV_eq, cutL_map]
              have pl1 : ∀ t ∈ cutL ks (some (-1)) none, plainS t = true := fun t ht => kp t (by
                unfold cutL at ht
                exact List.mem_of_mem_drop (List.mem_of_mem_take ht))
              refine z_neD (d := strD (cutL ks (some (-1)) none)) (e := strD [x]) (dp_strs (SqL.of (by rw [upd_ne n31.symm, upd_same, e1]))) (dp_strs (SqL.of upd_same)) (shaped_strs pl1) (shaped_strs (by simpa using plx)) ?_
              rw [eqv_strs]
              have eL : cutL ks (some (-1)) none = [x] ↔ ks.getLast? = some x := by
                rw [last_slice]
                cases ks.getLast? with
                | none => simp
                | some y => simp
              have s2 : Same H7 (upd (upd H7 b1 (.lst (cutV (ks.map V.str) (some (-1)) none))) b3 (.lst [.str x])) := by walk_at "sa"
              have kq2 := s2 _ _ kq
              generalize upd (upd H7 b1 (HO.lst (cutV (ks.map V.str) (some (-1)) none))) b3 (HO.lst [V.str x]) = H8 at *
              walk_at "z"
              refine ite_b (fun h2 => ?_) (fun h2 => ?_)
              · have nl : ¬ ks.getLast? = some x := fun z => by
                  rw [decide_eq_true (eL.mpr z)] at h2; cases h2
                walk_at "z"
                intro c hc
                have nkc := ne_of_none kq2 hc
                walk_at "z"
                intro e he
                obtain ⟨nec, he'⟩ := un_fresh he
                walk_at "z"
                intro f hf
                obtain ⟨nfe, hf'⟩ := un_fresh hf
                obtain ⟨nfc, hf''⟩ := un_fresh hf'
                refine ⟨f, rfl, .inr (fresh_of s2 hf''), by walk_at "sa", ?_⟩
                have e2 : cutV (ks.map V.str ++ [.str x]) (some (-(1 + d))) none = (addH (1 + d) x ks).map V.str := by
                  rw [cutV_eq, show ks.map V.str ++ [.str x] = (ks ++ [x]).map V.str by simp, cutL_map, cutL_lastN _ (by omega), addH, if_neg (by simp [ne, nl])]
                rw [← e2]; exact upd_same
              · have yl : ks.getLast? = some x := by
                  apply eL.mp
                  simpa using h2
                walk_at "z"
                refine ⟨qk, rfl, .inl rfl, s2, ?_⟩
                rw [addH, if_pos (.inr yl)]; exact kq2
            · have e : x = "" := by simpa using h1
              walk_at "z"
              refine ⟨qk, rfl, .inl rfl, Same.refl _, ?_⟩
              rw [addH, if_pos (.inl e)]; exact kq
          rintro σ8 H8 ⟨qk2, rfl, hq2, s8, e8⟩
          have alen := addH_len (m := 1 + d) (x := x) (by omega) kl
          have apl := addH_all (m := 1 + d) (P := fun t => plainS t = true) plx kp
          walk_at "z"
          intro b1 hb1
          have n1 := ne_of_none e8 hb1
          walk_at "z"
          intro b3 hb3
          obtain ⟨n31, hb3'⟩ := un_fresh hb3
          have n3 := ne_of_none e8 hb3'
          have s9 : Same H8 (upd (upd H8 b1 (.lst [.str ""])) b3 (.lst ((addH (1 + d) x ks).map V.str ++ [.str ""]))) := by walk_at "sa"
          have L9 := L7.swap (qk2 := qk2) (qs2 := b3) (ks2 := addH (1 + d) x ks) (ss2 := addH (1 + d) x ks ++ [("" : Str)]) (Same.trans s8 s9) hq2 (fresh_of s8 hb3') n3 (s9 _ _ e8) (by rw [upd_same]; simp)
          generalize upd (upd H8 b1 (HO.lst [.str ""])) b3 (HO.lst ((addH (1 + d) x ks).map V.str ++ [.str ""])) = H9 at L9
          have kq9 := L9.kq
          walk_at "z"
          refine ⟨p, "add", .str x, 0, rfl, lk, ls, 1 + d, s, ks, ss, L9.hi, by omega, by omega, kp, .inl ⟨x, rfl, rfl, okx, by rw [sizeLine_eq]; omega, fun H10 lk' ls' c1 c2 R' f' => ?_⟩⟩
          have L10 := L9.op (f'.mono (by simp)) R' c1 (.inr c2)
          walk_at "z"
          rw [List.length_map]
          refine ⟨lk', ls', qk2, b3, addH (1 + d) x ks, addH (1 + d) x ks ++ [("" : Str)], (addH (1 + d) x ks).length, _, _, _, _, _, _, _, _, _, rfl, L10.mono (by omega), by simp, Nat.le_refl _, alen, apl, ?_⟩
          · intro y hy
            rcases List.mem_append.mp hy with z | z
            · exact apl y z
            · rw [List.mem_singleton.mp z]; decide +kernel
        · walk_at "z"
          refine ite_b (fun h2 => ?_) (fun h2 => ?_)
          · clear h1 h2
            have kq := L7.kq
            have sq := L7.sq
            walk_at "z"
            rw [List.length_map]
            refine ⟨a, t, ns, _, _, rfl, L7.scr, t7, by simp; omega, by omega, fun gl H8 g0 g1 t8 f8 => ?_⟩
            have L8 := L7.draw t7 t8 f8
            have kq8 := L8.kq
            have sq8 := L8.sq
            clear f8 kq sq L7 t7
            obtain ⟨g, rfl⟩ := Int.eq_ofNat_of_zero_le g0
            walk_at "z"
            intro b1 hb1
            have sb1 := Same.new (Same.refl H8) hb1 (o := .tup [.str "refused", .str "place"])
            have L9 := L8.same sb1
            have kq9 := L9.kq
            have sq9 := L9.sq
            have eb1 : upd H8 b1 (.tup [.str "refused", .str "place"]) b1 = some (.tup [.str "refused", .str "place"]) := upd_same
            generalize upd H8 b1 (HO.tup [V.str (Str.ofString "refused"), V.str (Str.ofString "place")]) = H9 at *
            walk_at "z"
            rw [List.length_map]
            refine ite_b (fun h3 => ?_) (fun h3 => ?_)
            · have hg : g < ss.length := by have := of_decide_eq_true h3; omega
              have hgp := sp _ (List.getElem_mem hg)
              walk_at "z"
              refine z_ixL (v := .str ss[g]) (SqL.of sq9) (atI_nat (by rw [List.getElem?_map, List.getElem?_eq_getElem hg]; rfl)) ?_
              walk_at "z"
              refine ⟨p, "go", .int g, 0, rfl, lk, ls, 1 + d, s, ks, ss, L9.hi, by omega, by omega, kp, .inr (.inr (.inr (.inl ⟨g, ss[g], rfl, rfl, List.getElem?_eq_getElem hg, fun H10 R' f' => ?_⟩)))⟩
              have L10 := L9.op (f'.mono (by simp)) R' (.inl rfl) (.inl rfl)
              walk_at "z"
              refine z_neS (.str _) (.str _) (shaped_str hgp) ?_
              walk_at "z"
              exact ⟨lk, ls, qk, qs, ks, ss, g, _, _, _, _, _, _, _, _, _, rfl, L10.mono (by omega), el, by omega, kl, kp, sp⟩
            · have hg : ¬ g < ss.length := by have := of_decide_eq_false h3; omega
              walk_at "z"
              refine ⟨p, "go", .int g, 0, rfl, lk, ls, 1 + d, s, ks, ss, L9.hi, by omega, by omega, kp, .inr (.inr (.inr (.inr (.inl ⟨g, rfl, rfl, by omega, fun r H10 r0 s10 h10 => ?_⟩))))⟩
              have L10 := L9.same s10
              walk_at "z"
              refine z_neS (dp_ref h10) (dp_ref (s10 _ _ eb1)) (by decide +kernel) ?_
              walk_at "z"
              exact ⟨lk, ls, qk, qs, ks, ss, s, _, _, _, _, _, _, _, _, _, rfl, L10.mono (by omega), el, sl, kl, kp, sp⟩
          · walk_at "z"
            refine ite_b (fun h3 => ?_) (fun h3 => ?_)
            · clear h1 h2 h3
              have sq := L7.sq
              have hs' : s < ss.length := by omega
              walk_at "z"
              refine z_setL (j := s) sq (Evl.ixN_nat (by simpa using hs')) ?_
              rw [← List.map_set]
              have L8 := L7.put (ss2 := ss.set s x)
              generalize upd H7 qs (HO.lst ((ss.set s x).map V.str)) = H8 at L8
              obtain ⟨⟨dx, ho⟩, _, _, _⟩ := id L8.hi
              walk_at "z"
              refine ⟨p, lk, ls, 1 + d, s, ks, ss, x, rfl, L8.hi, hs', fun H9 R9 f9 => ?_⟩
              have L9 := L8.op (f9.mono (by simp)) R9 (.inl rfl) (.inl rfl)
              walk_at "z"
              refine ⟨lk, ls, qk, qs, ks, ss.set s x, s, _, _, _, _, _, _, _, _, _, rfl, L9.mono (by omega), by simpa using el, sl, kl, kp, ?_⟩
              intro y hy
              rcases List.mem_or_eq_of_mem_set hy with z | z
              · exact sp y z
              · rw [z]; exact plx
            · clear h1 h2 h3
              have kq := L7.kq
              walk_at "z"
              intro b1 hb1
              have sb1 := Same.new (Same.refl H7) hb1 (o := .lst [.str "o", .str "one", .str "two", .str "t", .str "", .str "zz"])
              have nb1 := (ne_of_none t7 hb1).symm
              walk_at "z"
              refine ⟨a, t, b1, ns, _, _, rfl, (L7.same sb1).scr, sb1 _ _ t7, by simp; omega, upd_same, by simp, nb1, fun v hv H8 t8 f8 => ?_⟩
              obtain ⟨part, hpart, rfl⟩ := mem_strs (ws := ["o", "one", "two", "t", "", "zz"]) hv
              have L8 := (L7.same sb1).draw (sb1 _ _ t7) t8 f8
              clear sb1 nb1 hv hb1 f8 t7
              have kq8 := L8.kq
              walk_at "z"
              rw [List.length_map]
              refine ⟨a, t, ns, _, _, rfl, L8.scr, t8, by simp; omega, by omega, fun gl H9 g0 g1 t9 f9 => ?_⟩
              have L9 := L8.draw t8 t9 f9
              have kq9 := L9.kq
              clear f9 t8 kq8
              walk_at "z"
              rw [List.length_map]
              refine z_rng1e (by omega) (by omega) ?_
              intro D hD
              refine lc_rngP (hitH ks part (gl - 1)) (fun j => .int (0 + (j : Nat))) (by omega) (fun _ => rfl) hD ?_ ?_ ?_
              · intro j H2 Q2 hj sm hq
                have hj' : j < ks.length := by omega
                have kq2 := sm _ _ kq9
                have eg : ks.getD j "" = ks[j] := by rw [List.getD_eq_getElem?_getD, List.getElem?_eq_getElem hj']; rfl
                unfold hitH at hq
                walk_at "z"
                have e0 : decide ((0 : Int) + (j : Nat) ≤ gl - 1) = decide ((j : Int) ≤ gl - 1) := by rw [Int.zero_add]
                rw [e0]
                refine ite_b (fun h => ?_) (fun h => ?_)
                · rw [h, Bool.true_and, eg] at hq
                  walk_at "z"
                  refine z_ixL (v := .str ks[j]) (SqL.of kq2) (by rw [Int.zero_add]; exact atI_nat (by rw [List.getElem?_map, List.getElem?_eq_getElem hj']; rfl)) ?_
                  walk_at "z"
                  exact hq
                · rw [h, Bool.false_and] at hq
                  exact hq
              · intro j H2 Q2 hj hf sm hq
                walk_at "z"
                exact hq
              have eN : (ks.length : Int).toNat = ks.length := by omega
              rw [eN]
              obtain ⟨l, el2⟩ : ∃ l, l = (List.range ks.length).filter (hitH ks part (gl - 1)) := ⟨_, rfl⟩
              have ef : findH ks part (gl - 1) = l.getLast? := by rw [el2]; rfl
              rw [← el2]
              have em : l.map (fun j => V.int (0 + (j : Nat))) = (l.map fun j : Nat => (0 : Int) + j).map V.int := by rw [List.map_map]; rfl
              rw [em]
              have sD := Same.new (Same.refl H9) hD (o := .lst ((l.map fun j : Nat => (0 : Int) + j).map V.int))
              have L10 := L9.same sD
              have eD : upd H9 D (.lst ((l.map fun j : Nat => (0 : Int) + j).map V.int)) D = some (.lst ((l.map fun j : Nat => (0 : Int) + j).map V.int)) := upd_same
              generalize upd H9 D (HO.lst ((l.map fun j : Nat => (0 : Int) + j).map V.int)) = H10 at *
              walk_at "z"
              refine ⟨p, "find", .str part, gl - 1, rfl, lk, ls, 1 + d, s, ks, ss, L10.hi, by omega, by omega, kp, .inr (.inr (.inr (.inr (.inr ⟨part, rfl, rfl, by omega, by omega, ?_⟩))))⟩
              walk_at "z"
              intro b3 hb3
              have sb3 := Same.new (Same.refl H10) hb3 (o := .lst [])
              have L11 := L10.same sb3
              have eD3 := sb3 _ _ eD
              refine z_neD (dp_ints (SqL.of eD3)) (dp_ints (ns := []) (SqL.of upd_same)) (shaped_ints _) (shaped_ints _) ?_
              rw [eqv_ints_nil, ef]
              generalize upd H10 b3 (HO.lst []) = H11 at *
              rcases List.eq_nil_or_concat l with rfl | ⟨l', k9, rfl⟩
              · walk_at "z"
                refine z_neS .non .non (by decide +kernel) ?_
                walk_at "z"
                exact ⟨lk, ls, qk, qs, ks, ss, s, _, _, _, _, _, _, _, _, _, rfl, L11.mono (by omega), el, sl, kl, kp, sp⟩
              · walk_at "z"
                refine z_ifT (by simp) ?_
                walk_at "z"
                rw [List.concat_eq_append] at *
                refine z_ixL (v := .int (0 + (k9 : Nat))) (SqL.of eD3) (by rw [List.map_append, List.map_append]; exact atI_last _ _) ?_
                have eo : optV (l' ++ [k9]).getLast? = .int (k9 : Nat) := by simp [optV]
                rw [eo, Int.zero_add]
                refine z_neS (.int _) (.int _) (shaped_int _) ?_
                walk_at "z"
                exact ⟨lk, ls, qk, qs, ks, ss, s, _, _, _, _, _, _, _, _, _, rfl, L11.mono (by omega), el, sl, kl, kp, sp⟩
      · rintro σ8 H8 ⟨lk, ls, qk, qs, ks, ss, s, v7, v8, v9, v10, v11, v12, v13, v14, v15, rfl, L8, el, sl, kl, kp, sp⟩
        obtain ⟨⟨dx, ho⟩, hk8, _, _⟩ := id L8.hi
        have kq := L8.kq
        walk_at "z"
        refine ⟨p, lk, ls, 1 + d, s, ks, ss, rfl, L8.hi, fun b hb => ?_⟩
        have sb : Same H8 (upd H8 b (.lst (ks.map V.str))) := Same.new (Same.refl _) hb
        walk_at "z"
        refine z_neS (dp_strs (SqL.of upd_same)) (dp_strs (SqL.of (sb _ _ kq))) (shaped_strs kp) ?_
        have L9 := L8.same sb
        generalize upd H8 b (HO.lst (ks.map V.str)) = H9 at L9
        obtain ⟨⟨dx, ho⟩, hk9, _, _⟩ := id L9.hi
        have kq9 := L9.kq
        walk_at "z"
        refine ⟨p, lk, ls, 1 + d, s, ks, ss, rfl, L9.hi, ?_⟩
        walk_at "z"
        refine z_ifF (by simp) ?_
        walk_at "z"
        refine ⟨p, lk, ls, 1 + d, s, ks, ss, rfl, L9.hi, ?_⟩
        walk_at "z"
        refine z_ifF (by simp) ?_
        walk_at "z"
        exact ⟨lk, ls, qk, qs, ks, ss, s, _, _, _, _, _, _, _, _, _, rfl, L9, el, sl, kl, kp, sp⟩
    · rintro σ H5 ⟨lk, ls, qk, qs, ks, ss, s, v7, v8, v9, v10, v11, v12, v13, v14, v15, rfl, L5, el, sl, kl, kp, sp⟩
      walk_at "z"
      exact ⟨p, lk, ls, 1 + d, s, ks, ss, rfl, L5.hi, by omega, by omega, kp, k⟩
end

/-! the head: one run of the top, by the kernel -/
def loose0 : List PySem.Str := ["__name__", "HandError", "BadKey", "BadText", "BadSize", "BadPlace", "MOST_TEXT", "is_sign", "look_text", "MOST_LINES", "History", "_law_cell", "_law_mix", "_law_draw", "_law_pick", "_law_refusal", "_law_told", "_law_bad"]
def loose : List PySem.Str := loose0
abbrev R : PySem.W.OpenRow := PySem.W.OpenLaw.row PySem.Challenge.rw_linehand_k30_whole_histories
abbrev hk : PySem.W.Hook := hookY fa fn ex
def ob (s : PySem.W.SharedT) : AlY := obsY fa fn ex (HandSHeadRun.getT s)
theorem ob_eq (s : PySem.W.SharedT) : ob s = hk.obs s.abs := obsY_eq (HandSHeadRun.getT_eq s)
theorem run (w : World) : HandSHeadRun.RunEq R (PySem.W.view R.prog [21]) hk ob 4000 loose w := by
  intro os
  kernel_rfl
end LH
open PySem PySem.W PySem.Calls PyProof.Rows
theorem PySem.Challenge.cw_linehand_k30_whole_histories_holds : PySem.Challenge.rw_linehand_k30_whole_histories.Holds := by
  w_on; o_law
  refine HandSHeadRun.head_any (r := OpenLaw.row PySem.Challenge.rw_linehand_k30_whole_histories) (q := view (OpenLaw.row PySem.Challenge.rw_linehand_k30_whole_histories).prog [21]) (H := LH.hk) (ob := LH.ob) (M := 4000) (loose := LH.loose) (d := HandSHeadRun.topDef (OpenLaw.row PySem.Challenge.rw_linehand_k30_whole_histories).prog 21) (kwd := []) LH.ob_eq (by kernel_rfl) (fun s => by kernel_rfl) LH.run (by kernel_rfl) (by kernel_rfl) (by kernel_rfl) (by rfl) (by first | assumption | decide +kernel) (by decide +kernel) ⟨rfl, rfl, rfl, rfl, rfl, by decide +kernel⟩ ?hw ?hc
  case hw => w_witness2
  case hc =>
    refine L2.walk_ofE (l := PySem.Challenge.rw_linehand_k30_whole_histories) (n := 63) (k := 6) (x := "script") (CX := L2.CX0) rfl (by decide) (by kernel_rfl) ⟨rfl, by decide, by decide⟩ ?F (fun _ _ _ _ z => z)
    intro w mg fa h Y G hmg0
    obtain ⟨K, KX, c⟩ := Y
    have hmg : mg ("law" : PySem.Str) = some (.ref fa) := by
      have e : (HandSHeadRun.topDef (OpenLaw.row PySem.Challenge.rw_linehand_k30_whole_histories).prog 21).name = ("law" : PySem.Str) := by kernel_rfl
      rw [← e]
      exact hmg0
    have T : LH.Tx K mg := ⟨c, h, KX, G⟩
    obtain ⟨fd, hB, hF⟩ := LH.f_law T
    have e1 : fa = He.ga K "law" := PySem.Value.ref.inj (Option.some.inj (hmg.symm.trans T.g_law))
    subst e1
    exact ⟨K, fd, LH.sp_law K, KX, fun s u => hB s [u] rfl, fun H a ns hl hO hS => ⟨a, ns, rfl, LH.Scr.of hl hO hS, fun _ => rfl⟩, fun base _ _ => LH.fnok0 (hF _ _ base) fun _ _ _ _ z => z⟩
