import PyProof.Rows.All
import Wide.All
import OpenK.AllK
import Wide.FinOn
import PyProof.EqAt
import PyProof.EqKinds
import PyProof.TupleCall
import KE.KStateDown
import Lean
import HandS.ForMost
import HandS.ForExc
import HandS.ExcIs
import HandS.IsInst
import HandS.Flow
import HandS.StrMore
import HandS.RevRange
import HandS.Deep
import HandS.DeepEq
import HandS.Defaults
import HandS.Evl
import HandS.Head0
import HandS.Head1
import HandS.Head2
import HandS.HeadEnd
import HandS.HeadHook1
import HandS.HeadHook2
import HandS.HeadHook3
import HandS.HeadHook4
import HandS.Style
import HandS.SetFor
import PySem.Challenge.RW_linehand_k31_whole_fills
set_option Elab.async false
set_option linter.all false
set_option maxRecDepth 100000
set_option maxHeartbeats 4000000
namespace LH
open PySem PySem.Spec PyProof.Rows L2

/-! ### a def, a method, a class that keeps its promise, by names -/
section
variable (P : Program) (w : World) (K : PySem.W.Frag) (mg : Str → Option Value) (base : Heap)
structure Fn (x : Str) (k : Nat) (ps : List Str) (sp : Sp) : Prop where
  ex : ∃ f fd, FnOk P w K mg base (L2.CX P w) k f fd ps sp ∧ mg x = some (.ref f) ∧ PySem.W.keepIn K (.ref f) = true ∧ Binds K fd ps [] ∧ ∀ (s : Shared) (us : List Value), us.length = ps.length → BindsTo s fd ⟨us, []⟩ (ps.zip us)
structure Mt (C : Addr) (m : Str) (k : Nat) (ps : List Str) (sp : Sp) : Prop where
  ex : ∃ f fd, FnOk P w K mg base (L2.CX P w) k f fd ps sp ∧ Meth K C m f ∧ Cls K C ∧ Binds K fd ps []
structure Mkr (x : Str) (C : Addr) (k : Nat) (ps : List Str) (sp : Sp) : Prop where
  ex : ∃ f fd, FnOk P w K mg base (L2.CX P w) k f fd ps sp ∧ Mk K C f ∧ mg x = some (.ref C) ∧ Binds K fd ps []
end

section
variable {X : Cx} {W : WX} {k : Nat} {ps : List Str} {sp : Sp} {x m : Str} {C : Addr} {p pos apos : Pos} {e o : Expr} {es : List Expr} {t : TA} {ta : TE}
theorem pe_fn (F : Fn X.prog X.w X.K X.mg X.base x k ps sp) (hr : Room k X.A) (tk : Takes X W) (ha : PA X (e :: es) t) (hg : Gl X x := by rfl) (hdb : (x == ("__debug__" : Str)) = false := by decide)
    (he : starEach (e :: es) X.env = (false, eval e X.env) :: starEach es X.env := by rfl) (hpl : (backTo pos (starEach es X.env)).any (·.1) = false := by rfl) : PE X (.Call (.Name x p) (e :: es) [] pos) (tCallS sp (WE W) t) := by
  obtain ⟨f, fd, F, hm, hk, hb, _⟩ := F.ex
  exact pe_callS F hr hg hm hk hb (passAt tk) ha hdb he hpl
theorem pe_fn0 (F : Fn X.prog X.w X.K X.mg X.base x k ps sp) (hr : Room k X.A) (tk : Takes X W) (hg : Gl X x := by rfl) (hdb : (x == ("__debug__" : Str)) = false := by decide) : PE X (.Call (.Name x p) [] [] pos) (tCallS sp (WE W) tNil) := by
  obtain ⟨f, fd, F, hm, hk, hb, _⟩ := F.ex
  refine ⟨fun pins s σ H Q I h => ?_⟩
  refine wpAny_Call_Name_kw (ld_glob I hg hm ?_ hdb)
  exact PySem.W.callWith_K0 I.kIn hk (run_fnS (us := []) (vs := []) F hr hb (passAt tk σ) I .nil h)
def tMt (C : Addr) (m : Str) (sp : Sp) (E : L2.St → XK) (ta : TE) (t : TA) : TE := fun σ H Q => ta σ H fun x H1 => ∃ a dx fs, x = .ref a ∧ H1 a = some (.ins C dx fs) ∧ fs.lookup m = none ∧ t σ H1 fun vs H2 => sp (x :: vs) H2 Q (E σ)
theorem pe_mt {pl : Sem Bool} (he : PE X o ta) (M : Mt X.prog X.w X.K X.mg X.base C m k ps sp) (hr : Room k X.A) (tk : Takes X W) (ha : PA X (e :: es) t)
    (hst : starEach (e :: es) X.env = (false, eval e X.env) :: starEach es X.env := by rfl) (hpl : (backTo pos (starEach es X.env)).any (·.1) = false := by rfl)
    (ht : eval (.Call (.Attribute o m apos) (e :: es) [] pos) X.env = (eval o X.env >>= fun ov => standAt apos.atName >>= fun _ => holding [ov] (getMethod ov m pl) >>= fun q => callWith pos q.1 q.2 (backTo pos (starEach (e :: es) X.env)) (backToKw pos (keywordEach [] X.env))) := by rfl) :
    PE X (.Call (.Attribute o m apos) (e :: es) [] pos) (tMt C m sp (WE W) ta t) := by
  obtain ⟨f, fd, F, hm, c, hb⟩ := M.ex
  refine ⟨fun pins s σ H Q I h => PySem.W.methodCall_KW (pl := pl) (thn (he.run pins s σ H _ I h) ?_) ht⟩
  rintro u s1 ⟨x, H1, I1, rx, a, dx, fs, rfl, ea, l, q⟩
  obtain rfl : u = Value.ref a := rx
  refine getmeth_ok I1 ea c hm l (PySem.W.callWith_K (first := [.ref a]) (h₀ := X.base) I.ok.mod.kin hm.kp (thn (ha.run pos pins s1 σ H1 _ I1 q) ?_) hst hpl)
  rintro us s2 ⟨vs, H2, I2, r, q2⟩
  exact ⟨I2.kIn, run_fnS (us := .ref a :: us) (vs := .ref a :: vs) F hr hb (passAt tk σ) I2 (.cons rfl r) q2⟩
theorem pe_mt0 {pl : Sem Bool} (he : PE X o ta) (M : Mt X.prog X.w X.K X.mg X.base C m k ps sp) (hr : Room k X.A) (tk : Takes X W)
    (ht : eval (.Call (.Attribute o m apos) [] [] pos) X.env = (eval o X.env >>= fun ov => standAt apos.atName >>= fun _ => holding [ov] (getMethod ov m pl) >>= fun q => callWith pos q.1 q.2 (backTo pos (starEach [] X.env)) (backToKw pos (keywordEach [] X.env))) := by rfl) :
    PE X (.Call (.Attribute o m apos) [] [] pos) (tMt C m sp (WE W) ta tNil) := by
  obtain ⟨f, fd, F, hm, c, hb⟩ := M.ex
  refine ⟨fun pins s σ H Q I h => PySem.W.methodCall_KW (pl := pl) (thn (he.run pins s σ H _ I h) ?_) ht⟩
  rintro u s1 ⟨x, H1, I1, rx, a, dx, fs, rfl, ea, l, q⟩
  obtain rfl : u = Value.ref a := rx
  exact getmeth_ok I1 ea c hm l (PySem.W.callWith_K0 (first := [.ref a]) I1.kIn hm.kp (run_fnS (us := [.ref a]) (vs := [.ref a]) F hr hb (passAt tk σ) I1 (.cons rfl .nil) q))
def tMk (C : Addr) (sp : Sp) (E : L2.St → XK) (t : TA) : TE := fun σ H Q => t σ H fun vs H1 => ∀ x dx, H1 x = none → H1 dx = none → dx ≠ x →
  sp (.ref x :: vs) (upd (upd H1 dx (.own x)) x (.ins C dx [])) (fun v H2 => v = .non ∧ Q (.ref x) H2) (E σ)
theorem run_mkS {f : Addr} {fd : FuncData} {E : XK} {pins : List (Addr × Obj)} {σ : L2.St} {H : Hp} {s : Shared} {Q : VK} {us : List Value} {vs : List V} (M : Mk X.K C f) (F : FnOk X.prog X.w X.K X.mg X.base (L2.CX X.prog X.w) k f fd ps sp) (hr : Room (k + 1) X.A) (hb : Binds X.K fd ps [])
    (hx : PassesAt (L2.CX X.prog X.w) X σ E) (I : Inv X pins σ H s) (r : Vals vs us)
    (h : ∀ x dx, H x = none → H dx = none → dx ≠ x → sp (.ref x :: vs) (upd (upd H dx (.own x)) x (.ins C dx [])) (fun v H2 => v = .non ∧ Q (.ref x) H2) E) : wpAny (model X.prog X.w) X.A (call (.ref C) us) (EP X pins σ Q) X.xe s := by
  have hq := h (s.heap.objs.size + 1) s.heap.objs.size (I.hok.fresh (Nat.le_succ _)) (I.hok.fresh (Nat.le_refl _)) (Nat.ne_of_lt (Nat.lt_succ_self _))
  have J := Inv.made (C := C) I
  have r2 : Vals (V.ref (s.heap.objs.size + 1) :: vs) (Value.ref (s.heap.objs.size + 1) :: us) := .cons rfl r
  have hl : ((Value.ref (s.heap.objs.size + 1) :: us) ++ []).length = ps.length := by
    rw [List.append_nil, ← r2.length, F.len _ _ _ _ hq]
  have hbs := hb _ (Value.ref (s.heap.objs.size + 1) :: us) J.kIn hl
  rw [List.append_nil] at hbs
  refine wpAny_call (make_map (f := f) I.kIn M.makes M.init (beq_iff_eq.mp M.fn) (codeAny_mono (F.run _ X.stack _ _ ⟨Value.ref (s.heap.objs.size + 1) :: us, []⟩ _ _ _ E (hr.make C us []) (J.env0.make C us []) hbs r2 hq) ?_))
  rintro (e | fl) s' hz
  · exact hx pins _ _ e s' J hz
  · cases fl with
    | ret u =>
      obtain ⟨v, H', I3, rv, ev, q3⟩ := J.after hz
      subst ev
      exact ⟨rv, ⟨V.ref (s.heap.objs.size + 1), H', I3, rfl, q3⟩⟩
    | _ => exact False.elim hz
theorem pe_mk (M : Mkr X.prog X.w X.K X.mg X.base x C k ps sp) (hr : Room (k + 1) X.A) (tk : Takes X W) (ha : PA X (e :: es) t) (hg : Gl X x := by rfl) (hdb : (x == ("__debug__" : Str)) = false := by decide)
    (he : starEach (e :: es) X.env = (false, eval e X.env) :: starEach es X.env := by rfl) (hpl : (backTo pos (starEach es X.env)).any (·.1) = false := by rfl) : PE X (.Call (.Name x p) (e :: es) [] pos) (tMk C sp (WE W) t) := by
  obtain ⟨f, fd, F, M, hm, hb⟩ := M.ex
  refine ⟨fun pins s σ H Q I h => wpAny_Call_Name_kw (ld_glob I hg hm (PySem.W.callWith_K (h₀ := X.base) I.ok.mod.kin M.kp (thn (ha.run pos pins s σ H _ I h) ?_) he hpl) hdb)⟩
  rintro us s1 ⟨vs, H1, I1, r, q⟩
  exact ⟨I1.kIn, run_mkS M F hr hb (passAt tk σ) I1 r q⟩
end
theorem fnok0 {P : Program} {w : World} {K : PySem.W.Frag} {mg : Str → Option Value} {base : Heap} {k : Nat} {f : Addr} {fd : FuncData} {ps : List Str} {sp : Sp} (F : FnOk P w K mg base (L2.CX P w) k f fd ps sp) (h : ∀ vs H Q E, sp vs H Q E → sp vs H Q E0) : FnOk P w K mg base CX0 k f fd ps sp := by
  refine ⟨F.len, fun A outer s H args us vs Q E hr he hb hv hs => codeAny_mono (F.run A outer s H args us vs Q E0 hr he hb hv (h _ _ _ _ hs)) ?_⟩
  rintro (e | fl) s' q
  · obtain ⟨_, _, _, _, _, _, _, _, _, _, _, _, z⟩ := q
    exact z.elim
  · cases fl <;> exact q

/-! ### a caught exception is tracked behind its suite -/
/-- an exception object of the class cls at a -/
def XO (cls : Value) (d : Option Addr) (a : Addr) : HO := .ext fun h => ∃ (oe : Obj) (vs : Array Value), h.get? a = some oe ∧ Zc cls d oe ∧ oe.data = .fields vs
theorem xo_ok {P : Program} {w : World} {H : Hp} {h : Heap} {a : Addr} {cls : Value} {d : Option Addr} {oe : Obj} {vs : Array Value} (e : h.get? a = some oe) (z : Zc cls d oe) (dd : oe.data = .fields vs) : ObjOk P w H h a (XO cls d a) :=
  ⟨⟨oe, vs, e, z, dd⟩, ⟨oe, e⟩, fun _ _ ⟨o, v, q, r⟩ k => ⟨o, v, k o q, r⟩⟩
section
variable {X : Cx} {pins : List (Addr × Obj)} {σ : L2.St} {H : Hp} {s : Shared}
theorem track {a : Addr} {ho : HO} (I : Inv X pins σ H s) (hn : H a = none) (h0 : X.s_0.heap.get? a = none) (hL : a ≠ X.env.locals) (hp : ∀ p ∈ X.pn ++ pins, p.1 ≠ a)
    (hc : ∀ x c, X.env.cells.lookup x = some c → c ≠ a) (ok : ObjOk X.prog X.w (upd H a ho) s.heap a ho) : Inv X pins σ (upd H a ho) s := by
  have nz : ∀ b u, H b = some u → b ≠ a := fun b u e => ne_of_none e hn
  have n0 : ∀ b o, X.s_0.heap.get? b = some o → b ≠ a := fun b o e z => by rw [z, h0] at e; cases e
  have B := I.base
  refine ⟨I.ok, I.os, I.bare, ⟨B.keep, B.slot, fun b o e n hx => ?_, B.there, fun b xs e => ?_, fun b o u e => ?_, fun b ps e => ?_⟩, I.loc, I.cell, ?_, fun x c e => ?_, fun p q => ?_, fun b u e => ?_, I.len⟩
  · rw [upd_ne (n0 b o e)]; exact B.free b o e n hx
  · have q := B.tups b xs e; rw [upd_ne (nz b _ q)]; exact q
  · have q := B.frzs b o u e; rw [upd_ne (nz b _ q)]; exact q
  · obtain ⟨m, q⟩ := B.tbls b ps e; exact ⟨m, by rw [upd_ne (nz b _ q)]; exact q⟩
  · rw [upd_ne (Ne.symm hL)]; exact I.free
  · rw [upd_ne (hc x c e)]; exact I.freeC x c e
  · obtain ⟨a1, a2, a3⟩ := I.pin p q; exact ⟨a1, by rw [upd_ne (hp p q)]; exact a2, a3⟩
  · by_cases hb : b = a
    · subst hb; rw [upd_same] at e; cases e; exact ok
    · rw [upd_ne hb] at e
      exact (I.hok b u e).stay (fun c v _ q => q) (fun c q => by rw [upd_ne (nz c _ q)]; exact q) fun c xs q => by rw [upd_ne (nz c _ q)]; exact q
/-- what is wished of a raise in the body: the suite's reading, behind it the exception is tracked -/
def wTrk (K : PySem.W.Frag) (c : Value) (i : Nat) (ts : Addr → Value → Option Addr → TS) (Wout : WX) (D : Ends) : WX := fun cls d σ H =>
  ∃ b, PySem.W.exmOne K cls c = some b ∧ (b = true → ∀ a, H a = none → ts a cls d { nx := fun σ' H' => H' a = none → D.nx (σ'.set i none) (upd H' a (XO cls d a)), rt := fun v H' => H' a = none → D.rt v (upd H' a (XO cls d a)), bk := fun σ' H' => H' a = none → D.bk (σ'.set i none) (upd H' a (XO cls d a)), ct := fun σ' H' => H' a = none → D.ct (σ'.set i none) (upd H' a (XO cls d a)) } (σ.set i (some (.ref a))) H) ∧
    (b = false → Wout cls d σ H)
variable {i : Nat} {n x : Str} {c : Value} {body suite : List Stmt} {b0 : Stmt} {np pos pos' : Pos} {tb : WX → TS} {ts : Addr → Value → Option Addr → TS} {Wout : WX}
theorem ps_try_trk (hs : X.stack = X.env :: X.outer) (hf : X.env.frame = some X.env.locals) (hex : X.ex = []) (hN : X.N.Nodup) (hi : X.N[i]? = some n) (hln : X.env.kindOf n = some .local) (hc : Names X x c) (tk : Takes X Wout)
    (hb : ∀ (W : WX) (pn : List (Addr × Obj)) (xe : Value → Shared → Prop), Takes (X.tr pn xe) W → PassesOwn (model X.prog X.w) X.A X.env xe → PSs (X.tr pn xe) body (tb W))
    (hsu : ∀ (a : Addr) (oe : Obj) (cls : Value) (d : Option Addr) (pn : List (Addr × Obj)), Zc cls d oe → (∃ vs, oe.data = .fields vs) → PSs (X.suite a ((a, oe) :: pn)) (b0 :: suite) (ts a cls d)) :
    PS X (.Try body [.ExceptHandler (some (.Name x np)) (some n) (b0 :: suite) pos'] [] [] pos) (fun D σ H => tb (wTrk X.K c i ts Wout D) D σ H) := by
  refine ⟨fun pins s σ H D I h => wpAny_Try_except ?_⟩
  have ok := I.ok
  have hfr : X.A.frames = some (X.env :: X.outer) := ok.frames.trans (congrArg some hs)
  have hloc : Loc X.env.scope n := .inl hln
  refine wpAny_mono ((hb (wTrk X.K c i ts Wout D) (X.pn ++ pins) (fun e s1 => wpAny (model X.prog X.w) X.A (noteFrame e X.env) (fun _ s2 => wpAny (model X.prog X.w) X.A (setFlight e none) (fun _ s3 => wpAny (model X.prog X.w) X.A (handleBy e X.env [.ExceptHandler (some (.Name x np)) (some n) (b0 :: suite) pos']) (SP X pins D) X.xe s3) X.xe s2) X.xe s1) (fun u s' xx => ?_) PassesOwn.looking).run [] s σ H D (I.toTry _) h) (fun f s1 hsp => ?_) (fun e s1 he => he)
  · obtain ⟨a, B, sI, pins', σ', H', cls, d, rfl, J', nb, up, sky, na, os, ag, b, hb1, hyes, hno⟩ := xx
    have J : Inv X pins σ' H' sI := J'.ofTry ok
    refine Sky.land Zc.steady hfr hf (hs ▸ sky) fun h3 fl3 up3 => ?_
    have J3 : Inv X pins σ' H' { s' with heap := h3 } := J.landed nb fl3.1 (up.trans up3) os ag
    obtain ⟨oe3, vs3, he3, hz3, hd3⟩ := fl3.there
    have nfr : a ∉ frs (X.env :: X.outer) := fun hm => by
      obtain ⟨_, o', e', hnf⟩ := fl3.2.2.1.mem hm
      rw [he3] at e'; cases e'
      exact hnf _ hd3
    have nL : a ≠ X.env.locals := fun z => nfr (List.mem_filterMap.mpr ⟨X.env, List.mem_cons_self, by rw [hf, z]⟩)
    have nF : a ∉ X.fs := fun hm => by
      obtain ⟨e, he, q⟩ := List.mem_filterMap.mp hm
      exact nfr (List.mem_filterMap.mpr ⟨e, List.mem_cons_of_mem _ he, q⟩)
    have nI : sI.heap.get? a = none := by
      cases e : sI.heap.get? a with
      | none => rfl
      | some o => exact absurd ((nb a o e (by rw [hs]; exact nfr)).symm.trans fl3.2.1) (by intro q; cases q)
    have n0 : X.s_0.heap.get? a = none := by
      cases e : X.s_0.heap.get? a with
      | none => rfl
      | some o =>
        obtain ⟨o', q⟩ := J.base.there a o e (by rw [hex]; exact fun z => nomatch z)
        rw [nI] at q; cases q
    have nP : ∀ p ∈ X.pn ++ pins, p.1 ≠ a := fun p hp z => by
      have q := (J.pin p hp).1
      rw [z, nI] at q; cases q
    have nC : ∀ y c', X.env.cells.lookup y = some c' → c' ≠ a := fun y c' e z => by
      obtain ⟨v, o, ho, _⟩ := J.cell y c' e
      rw [z, nI] at ho; cases ho
    have S3 := J3.suite he3 hd3 na nL nF
    refine wpAny_handleBy_cons (codeAny_handlers_test ?_) (by intro q; cases q)
    have LT : PySem.W.Looks (model X.prog X.w) h3 (typeOf (.ref a)) cls := fun A Q E s k q => wpAny_typeOf_ref (k _ _ he3) (by rw [hz3.1]; exact q)
    have LM := PySem.W.exm_one (M := model X.prog X.w) (J3.kIn) LT hb1
    have test : ∀ {Q : Value → Shared → Prop} {E : Value → Shared → Prop}, Q c { s' with heap := h3 } → wpAny (model X.prog X.w) (X.A.mark (some (.ref a))) (eval (.Name x np) X.env) Q E { s' with heap := h3 } := fun {Q E} q => by
      rcases hc with ⟨hg, hdbg, hm | ⟨hm, hv, hnn⟩⟩
      · exact ld_glob (X := X.suite a ((a, oe3) :: (X.pn ++ pins))) S3 hg hm q hdbg
      · exact ld_blt (X := X.suite a ((a, oe3) :: (X.pn ++ pins))) S3 hg hm hv q hnn hdbg
    refine test (LM.here ?_)
    cases b with
    | true =>
      refine codeAny_handlers_suite_as (HandSPX.lands_againZ fl3 fun h4 fl4 up4 => ?_)
      have J4 : Inv X pins σ' H' { s' with heap := h4 } := J.landed nb fl4.1 ((up.trans up3).trans up4) os ag
      obtain ⟨oe4, vs4, he4, hz4, hd4⟩ := fl4.there
      refine store_ok (X := X.suite a ((a, oe4) :: (X.pn ++ pins))) (v := .ref a) (J4.suite he4 hd4 na nL nF) hN hi hloc rfl (fun s5 S5 => ?_) (.inr hln)
      refine wpAny_mono ((hsu a oe4 cls d (X.pn ++ pins) hz4 ⟨_, hd4⟩).run [] s5 _ H' _ S5 (hyes rfl a na)) (fun f s6 hsp => ?_) (fun _ _ z => False.elim z)
      have fin : ∀ {σ6 : L2.St} {H6 : Hp} {Q : Shared → Prop}, Inv (X.suite a ((a, oe4) :: (X.pn ++ pins))) [] σ6 H6 s6 → (H6 a = none → ∀ s7, Inv X pins (σ6.set i none) (upd H6 a (XO cls d a)) s7 → Q s7) →
          wpAny (model X.prog X.w) X.A (bindName X.env n .none >>= fun _ => unbindBehindTheSuite X.env n pos') (fun _ s7 => Q s7) X.xe s6 := fun {σ6 H6 Q} S6 hq => by
        obtain ⟨g1, g2, _⟩ := S6.pin (a, oe4) (List.mem_append_left _ List.mem_cons_self)
        exact gone_ok (track (S6.unsuite ok) g2 n0 nL nP nC (xo_ok g1 hz4 hd4)) hN hi hln (hq g2)
      cases f with
      | next => obtain ⟨σ6, H6, S6, q6⟩ := hsp; exact fin S6 fun g s7 J7 => ⟨_, _, J7, q6 g⟩
      | brk => obtain ⟨σ6, H6, S6, q6⟩ := hsp; exact fin S6 fun g s7 J7 => ⟨_, _, J7, q6 g⟩
      | cont => obtain ⟨σ6, H6, S6, q6⟩ := hsp; exact fin S6 fun g s7 J7 => ⟨_, _, J7, q6 g⟩
      | ret u => obtain ⟨v6, σ6, H6, S6, r6, q6⟩ := hsp; exact fin S6 fun g s7 J7 => ⟨_, _, _, J7, r6, q6 g⟩
    | false =>
      show wpAny _ X.A (handleBy (.ref a) X.env []) _ _ _
      refine wpAny_handleBy_nil ?_
      obtain ⟨k1, k2, k3, oe, vs, T, oT, ts', he, hz, hd, h1, hr⟩ := id fl3
      unfold PySem.passOn
      refine wpAny_bind (wpAny_field he hd h1 ?_)
      rw [if_neg (show ¬ ((Value.ref T == Value.none) = true) from by simp)]
      have fin : wpAny (model X.prog X.w) X.A (setFlight (.ref a) X.env.frame) (fun _ s4 => wpAny (model X.prog X.w) X.A (throw (.ref a) : Sem Flow) (SP X pins D) X.xe s4) X.xe { s' with heap := h3 } := by
        rw [hf]
        refine HandSPX.setFlight_upZ fl3 fun h4 hh4 up4 => wpAny_throw (tk _ _ ?_)
        exact ⟨a, B, sI, pins, σ', H', cls, d, rfl, J, nb, (up.trans up3).trans up4, .inr (.inr (by rw [hs]; exact hh4)), na, os, ag, hno rfl⟩
      first
        | exact wpAny_bind (wpAny_pure (wpAny_bind fin))
        | exact wpAny_bind fin
  · cases f with
    | next => obtain ⟨σ', H', J', q⟩ := hsp; exact wpAny_execs_nil ⟨σ', H', J'.ofTry ok, q⟩
    | brk => obtain ⟨σ', H', J', q⟩ := hsp; exact ⟨σ', H', J'.ofTry ok, q⟩
    | cont => obtain ⟨σ', H', J', q⟩ := hsp; exact ⟨σ', H', J'.ofTry ok, q⟩
    | ret u => obtain ⟨v, σ', H', J', r, q⟩ := hsp; exact ⟨v, σ', H', J'.ofTry ok, r, q⟩
end
/-! ### isinstance of such -/
def rIsX (K : PySem.W.Frag) : List V → Hp → VK → Prop := fun xs H Q => ∃ (a D : Addr) (c : V) (cv : Value) (b : Bool), xs = [.ref a, c] ∧ H a = some (XO (.ref D) none a) ∧ ExcC K D ∧ ClsV c cv ∧ PySem.W.kitOne K (.ref D) cv = some b ∧ Q (.bl b) H
theorem call_isX {X : Cx} : CallR X (.builtin "isinstance") (rIsX X.K) := by
  intro pins s σ H xs us Q I r h
  obtain ⟨a, D, c, cv, b, rfl, ha, C, hcv, e, q⟩ := h
  obtain ⟨u1, u2, rfl, r1, r2⟩ := vals2 r
  cases (show u1 = Value.ref a from r1)
  have ec := hcv.eq r2
  subst ec
  obtain ⟨⟨oe, vs, hget, hz, hv⟩, _⟩ := (show ObjOk X.prog X.w H s.heap a (XO (.ref D) none a) from I.hok a _ ha)
  have J : PySem.W.InstAt s.heap a oe D none := by
    obtain ⟨oc, od, oda, osl⟩ := oe
    obtain ⟨h1, h2⟩ := hz
    dsimp only at h1 h2 hv
    subst h1 h2 hv
    exact ⟨hget, rfl, rfl, trivial⟩
  exact PySem.W.kia_one (PySem.W.handS_kitx_exc C.hg C.hk C.hs C.hd C.ha C.hn C.ht C.hm) I.kIn J e (fun z => nomatch z) fun tk => ⟨.bl b, H, I.kept (t' := tk) fun _ _ z => z, rfl, q⟩

/-! ### rules in the form that the walks use -/
section
variable {P : Program} {w : World} {K : PySem.W.Frag} {mg : Str → Option Value} {base : Heap} {N : List Str} {qual : Str} {scope : Scope} {f : Addr} {cd : Value} {A : Around} {outer : List Env} {s : Shared} {H : Hp} {E : XK}
theorem tkOf : Takes (cxOf (L2.CX P w) P w K mg base N qual scope f cd A outer s H E) (fun cls d _ H => E cls d H) := takes_of rfl rfl rfl rfl
theorem passOf : PassesOwn (model P w) (cxOf (L2.CX P w) P w K mg base N qual scope f cd A outer s H E).A (cxOf (L2.CX P w) P w K mg base N qual scope f cd A outer s H E).env (cxOf (L2.CX P w) P w K mg base N qual scope f cd A outer s H E).xe := passes_of rfl
end
section
variable {X : Cx} {a b e o value : Expr} {ta tb te tv : TE} {tA : TT} {pos pos' : Pos} {x f : Str} {C : Addr}
theorem pe_gcon {v : V} (h : ∃ u, X.mg x = some u ∧ RelV v u) (hg : Gl X x := by rfl) (hd : (x == ("__debug__" : Str)) = false := by decide) : PE X (.Name x pos) (tC v) := by
  obtain ⟨u, hm, r⟩ := h
  exact pe_glob hg hm r hd
theorem pe_gref {a : Addr} (h : X.mg x = some (.ref a)) (hg : Gl X x := by rfl) (hd : (x == ("__debug__" : Str)) = false := by decide) : PE X (.Name x pos) (tC (.ref a)) := pe_glob hg h rfl hd
/-- o.f, o an instance of the class at C -/
def tGet (C : Addr) (ta : TE) (f : Str) : TE := fun σ H Q => ta σ H fun x H1 => ∃ a dx fs v, x = .ref a ∧ H1 a = some (.ins C dx fs) ∧ fs.lookup f = some v ∧ Q v H1
theorem pe_get (c : Cls X.K C) (n : NoAttr X.K C f) (he : PE X e ta) (hb : attributeBase e f X.env (eval e X.env) = eval e X.env := by rfl) : PE X (.Attribute e f pos) (tGet C ta f) := by
  refine ⟨fun pins s σ H Q I h => attr_of hb (thn (he.run pins s σ H _ I h) ?_)⟩
  rintro u s1 ⟨x, H1, I1, rx, a, dx, fs, v, rfl, ea, l, q⟩
  obtain rfl : u = Value.ref a := rx
  exact getattr_ok I1 ea c n l fun u' s2 I2 ru => ⟨v, H1, I2, ru, q⟩
/-- o.f = v -/
def tPut (C : Addr) (ta tv : TE) (f : Str) : TS := fun D σ H => tv σ H fun y H1 => ta σ H1 fun x H2 => ∃ a dx fs, x = .ref a ∧ H2 a = some (.ins C dx fs) ∧ fs.length < 1000 ∧ D.nx σ (upd H2 a (.ins C dx (putF f y fs)))
theorem ps_put (c : Cls X.K C) (n : NoAttr X.K C f) (ha : PE X o ta) (hv : PE X value tv) (hs : swapsWith value (some (.Attribute o f pos')) pos.line X.env = pure false := by rfl) : PS X (.Assign [.Attribute o f pos'] value pos) (tPut C ta tv f) := by
  refine ⟨fun pins s σ H D I h => plainObj_wpAny_Assign_Attribute (thn (hv.run pins s σ H _ I h) ?_) hs⟩
  rintro u s1 ⟨y, H1, I1, ry, q⟩
  refine thn (ha.run pins s1 σ H1 _ I1 q) ?_
  rintro ov s2 ⟨x, H2, I2, rx, a, dx, fs, rfl, ea, l, q2⟩
  obtain rfl : ov = Value.ref a := rx
  exact setattr_ok I2 ea c n l ry fun s3 I3 => ⟨σ, _, I3, q2⟩
/-- a value's truth as a test -/
def tTr (K : PySem.W.Frag) (ta : TE) : TT := fun σ H Q => ta σ H fun x H1 => ∃ k, TruV K x H1 k ∧ Q k H1
theorem pt_tr (ha : PE X a ta) (he : ∀ whole, isTrue a X.env whole = (do let v ← whole; standAt a.pos; holding [v] (truthy v)) := by intro _; rfl) : PT X a (tTr X.K ta) := pt_truth ha he
def rLn (K : PySem.W.Frag) : List V → Hp → VK → Prop := fun xs H Q => ∃ x n, xs = [x] ∧ LenV K x H n ∧ Q (.int n) H
theorem call_ln : CallR X (.builtin "len") (rLn X.K) := call_len
def rOrd : List V → Hp → VK → Prop := fun xs H Q => ∃ x, xs = [.str x] ∧ x.length = 1 ∧ Q (.int (x.cps.getD 0 0 : Nat)) H
theorem call_or : CallR X (.builtin "ord") rOrd := call_ord
def rMin2 : List V → Hp → VK → Prop := fun xs H Q => ∃ i j, xs = [.int i, .int j] ∧ Q (.int (if j < i then j else i)) H
def rMax2 : List V → Hp → VK → Prop := fun xs H Q => ∃ i j, xs = [.int i, .int j] ∧ Q (.int (if j > i then j else i)) H
theorem call_mn (hc : X.calm = true) : CallR X (.builtin "min") rMin2 := call_min2 hc
theorem call_mx (hc : X.calm = true) : CallR X (.builtin "max") rMax2 := call_max2 hc
def rLstOf (K : PySem.W.Frag) : List V → Hp → VK → Prop := fun xs H Q => ∃ p ys, xs = [.ref p] ∧ (SqL K H p ys ∨ SqT K H p ys) ∧ ∀ l, H l = none → Q (.ref l) (upd H l (.lst ys))
theorem call_lo : CallR X (.type "list") (rLstOf X.K) := call_list_of
def rStrI : List V → Hp → VK → Prop := fun xs H Q => ∃ i, xs = [.int i] ∧ i.natAbs.log2 < 1920 ∧ Q (.str (toString i)) H
theorem call_si : CallR X (.type "str") rStrI := call_str_int
def rAddS : R2 := fun x y H Q => ∃ i j, x = .str i ∧ y = .str j ∧ i.length + j.length ≤ sizeLine ∧ Q (.str (i ++ j)) H
theorem op_addS : OpR X (binaryOp .Add) rAddS := op_add_str
def rInStr : R2 := fun x y H Q => ∃ i j, x = .str i ∧ y = .str j ∧ Q (.bl (!(Builtin.Str.occurrences j i 0 j.length 1).isEmpty)) H
theorem op_inStr : OpR X (compareOp .In) rInStr := op_in_str
def rIsNon : R2 := fun x y H Q => y = .non ∧ Q (.bl (decide (x = .non))) H
def rNotNon : R2 := fun x y H Q => y = .non ∧ Q (.bl (!decide (x = .non))) H
theorem op_isNon : OpR X (compareOp .Is) rIsNon := op_isN
theorem op_notNon : OpR X (compareOp .IsNot) rNotNon := op_notN
def rMulS : R2 := fun x y H Q => ∃ z n, x = .str z ∧ y = .int n ∧ MulOk z n ∧ Q (.str (Txt.mul z n)) H
theorem op_mulS : OpR X (binaryOp .Mult) rMulS := by
  rintro pins s σ H x y v u Q I rx ry ⟨z, n, rfl, rfl, ok, q⟩
  obtain ⟨t, rfl⟩ := rx
  obtain ⟨t2, rfl⟩ := ry
  exact SB.mul ok fun t' k => ⟨.str (Txt.mul z n), H, I.tok k, ⟨t', rfl⟩, q⟩
def rCount (K : PySem.W.Frag) : V → List V → Hp → VK → Prop := fun x xs H Q => ∃ (a : Addr) (ys : List V) (y : V), x = V.ref a ∧ xs = [y] ∧ SqL K H a ys ∧ flatV y = true ∧ ys.all flatV = true ∧ Q (.int (ys.countP fun z => eqV z y : Nat)) H
theorem countP_eqU {y : V} : ∀ {ys : List V} {us : List Value}, Vals ys us → ys.all flatV = true → us.countP (eqU y) = ys.countP fun z => eqV z y
  | _, _, .nil, _ => rfl
  | z :: _, u :: _, .cons r t, f => by
    rw [List.all_cons, Bool.and_eq_true] at f
    rw [List.countP_cons, List.countP_cons, countP_eqU t f.2, eqU_of r f.1]
theorem mt_countF : MtR X "list.count" (rCount X.K) := by
  rintro pins s σ H x xs v us Q I rx rxs ⟨a, ys, y, rfl, rfl, hs, fy, fys, q⟩
  cases rx
  obtain ⟨uy, rfl, ry⟩ := vals1 rxs
  obtain ⟨its, rv, ⟨⟨cls, dd, data, sl⟩, n, ho, hc, hdn, hd⟩, hlen⟩ := I.list hs
  simp only at hc hd
  subst hc hd
  refine call_meets PySem.F.slot_list_count ⟨_, ho, rfl⟩ PySem.F.entry_list_count (PySem.F.args_list_count_2 _ _) (SeqAt.list_countAt a its.toArray n dd sl uy (eqU y)) ⟨ho, fun u' hu' => mem_eqAt ry fy rv fys u' (by simpa using hu'), ?_⟩
  have ec : its.toArray.toList.countP (eqU y) = ys.countP fun z => eqV z y := countP_eqU rv fys
  rw [ec]
  exact ⟨.int (ys.countP fun z => eqV z y : Nat), H, I.tok _, ⟨_, rfl⟩, q⟩
abbrev Xc (K : PySem.W.Frag) (C : Addr) : Prop := PySem.W.excIn K C He.veBase "ValueError.__new__" = true ∧ PySem.W.keepIn K (.ref C) = true ∧ PySem.W.subIn K (.ref C) (.type "BaseException") = some true ∧ PySem.W.typeIn K (.ref C) = some (.type "type")
def tRaiseT (W : WX) (cls : Value) : TS := fun _ σ H => W cls none σ H
theorem ps_rs {W : WX} {x m : Str} {j : Nat} {p p2 pos pos2 : Pos} (hc : X.calm = true) (tk : Takes X W) (q : Xc X.K C)
    (gC : X.mg x = some (.ref C)) (hg : Gl X x := by rfl) (hdb : (x == ("__debug__" : Str)) = false := by decide) : PS X (.Raise (some (.Call (.Name x p) [.Constant (.str m) j p2] [] pos)) none pos2) (tRaiseT W (.ref C)) :=
  ps_raise hc tk (pmk_own PySem.F.excBase_ValueError q.1 gC q.2.1 (raises_own q.2.2.1 q.2.2.2) hg hdb)
def tTry (K : PySem.W.Frag) (c : Value) (i : Nat) (ts : Addr → Value → Option Addr → TS) (Wout : WX) (tb : WX → TS) : TS := fun D σ H => tb (wTrk K c i ts Wout D) D σ H
theorem ps_tryT {i : Nat} {n x : Str} {c : Value} {body suite : List Stmt} {b0 : Stmt} {np pos pos' : Pos} {tb : WX → TS} {ts : Addr → Value → Option Addr → TS} {Wout : WX} (hs : X.stack = X.env :: X.outer) (hf : X.env.frame = some X.env.locals) (hex : X.ex = []) (hN : X.N.Nodup) (hi : X.N[i]? = some n) (hln : X.env.kindOf n = some .local) (hc : Names X x c) (tk : Takes X Wout)
    (hb : ∀ (W : WX) (pn : List (Addr × Obj)) (xe : Value → Shared → Prop), Takes (X.tr pn xe) W → PassesOwn (model X.prog X.w) X.A X.env xe → PSs (X.tr pn xe) body (tb W))
    (hsu : ∀ (a : Addr) (oe : Obj) (cls : Value) (d : Option Addr) (pn : List (Addr × Obj)), Zc cls d oe → (∃ vs, oe.data = .fields vs) → PSs (X.suite a ((a, oe) :: pn)) (b0 :: suite) (ts a cls d)) :
    PS X (.Try body [.ExceptHandler (some (.Name x np)) (some n) (b0 :: suite) pos'] [] [] pos) (tTry X.K c i ts Wout tb) := ps_try_trk hs hf hex hN hi hln hc tk hb hsu
end
/-! ### texts as lists of codes -/
def tl (x : Str) : List Nat := x.cps.toList
def S (l : List Nat) : Str := ⟨l.toArray⟩
@[simp] theorem tl_S (l : List Nat) : tl (S l) = l := rfl
@[simp] theorem S_tl (x : Str) : S (tl x) = x := rfl
theorem str_ext {x y : Str} (h : tl x = tl y) : x = y := by rw [← S_tl x, ← S_tl y, h]
theorem str_eq_iff {x y : Str} : x = y ↔ tl x = tl y := ⟨fun h => by rw [h], str_ext⟩
theorem len_tl (x : Str) : x.length = (tl x).length := by show x.cps.size = x.cps.toList.length; simp
@[simp] theorem len_S (l : List Nat) : (S l).length = l.length := by rw [len_tl, tl_S]
@[simp] theorem tl_app (x y : Str) : tl (x ++ y) = tl x ++ tl y := by show (x.cps ++ y.cps).toList = _; rw [Array.toList_append]; rfl
@[simp] theorem len_app (x y : Str) : (x ++ y).length = x.length + y.length := by rw [len_tl, tl_app, List.length_append, ← len_tl, ← len_tl]
/-! ### one step of a reading -/
section
variable {σ : L2.St} {H : Hp} {Q : VK} {QB : Bool → Hp → Prop} {QA : List V → Hp → Prop} {QO : Option Int → Hp → Prop} {D : Ends} {i : Nat} {v x y z : V} {ta tb tc te tv to : TE} {tt tu : TT} {t1 t2 ts : TS} {tas : TA} {b : Bool} {K : PySem.W.Frag} {a C dx : Addr} {fs : List (Str × V)} {f : Str} {r r' : R2} {n m : Int} {p : Addr} {xs ys : List V} {s1 s2 : Str}
theorem z_var (h : σ[i]? = some (some v)) (q : Q v H) : tVar i σ H Q := ⟨v, h, q⟩
theorem z_c (q : Q v H) : tC v σ H Q := q
theorem z_op (q : ta σ H fun x H1 => tb σ H1 fun y H2 => r x y H2 Q) : tOp r ta tb σ H Q := q
theorem z_un {r : V → Hp → VK → Prop} (q : ta σ H fun x H1 => r x H1 Q) : tUn r ta σ H Q := q
theorem z_rU {g : Int → V} (q : Q (g n) H) : rU g (.int n) H Q := ⟨n, rfl, q⟩
theorem z_i0 {g : Int → Int → V} (q : Q (g n m) H) : rI0 g (.int n) (.int m) H Q := ⟨n, m, rfl, rfl, q⟩
theorem z_i {Cc : Int → Int → Prop} {g : Int → Int → V} (h : Cc n m) (q : Q (g n m) H) : rI Cc g (.int n) (.int m) H Q := ⟨n, m, rfl, rfl, h, q⟩
theorem z_eq (h : scal x y = true) (q : Q (.bl (decide (x = y))) H) : rEq x y H Q := ⟨h, q⟩
theorem z_ne (h : scal x y = true) (q : Q (.bl (!decide (x = y))) H) : rNe x y H Q := ⟨h, q⟩
theorem z_isN (q : Q (.bl (decide (x = .non))) H) : rIsNon x .non H Q := ⟨rfl, q⟩
theorem z_notN (q : Q (.bl (!decide (x = .non))) H) : rNotNon x .non H Q := ⟨rfl, q⟩
theorem z_addS (h : s1.length + s2.length ≤ sizeLine) (q : Q (.str (s1 ++ s2)) H) : rAddS (.str s1) (.str s2) H Q := ⟨s1, s2, rfl, rfl, h, q⟩
theorem z_mulS (h : MulOk s1 n) (q : Q (.str (Txt.mul s1 n)) H) : rMulS (.str s1) (.int n) H Q := ⟨s1, n, rfl, rfl, h, q⟩
theorem z_cat {l b : Addr} (h1 : H l = some (.lst xs)) (h2 : H b = some (.lst ys)) (h3 : xs.length + ys.length ≤ sizeLine) (q : ∀ p, H p = none → Q (.ref p) (upd H p (.lst (xs ++ ys)))) : rCat (.ref l) (.ref b) H Q := ⟨l, b, xs, ys, rfl, rfl, h1, h2, h3, q⟩
theorem z_get (q : ta σ H fun x H1 => ∃ a dx fs v, x = .ref a ∧ H1 a = some (.ins C dx fs) ∧ fs.lookup f = some v ∧ Q v H1) : tGet C ta f σ H Q := q
theorem z_get1 {c : V → Prop} (h : H a = some (.ins C dx fs)) (l : fs.lookup f = some v) (q : c v) : ∃ a' dx' fs' v', V.ref a = .ref a' ∧ H a' = some (.ins C dx' fs') ∧ fs'.lookup f = some v' ∧ c v' := ⟨a, dx, fs, v, rfl, h, l, q⟩
theorem z_put (q : tv σ H fun y H1 => ta σ H1 fun x H2 => ∃ a dx fs, x = .ref a ∧ H2 a = some (.ins C dx fs) ∧ fs.length < 1000 ∧ D.nx σ (upd H2 a (.ins C dx (putF f y fs)))) : tPut C ta tv f D σ H := q
theorem z_put1 {c : Addr → Addr → List (Str × V) → Prop} (h : H a = some (.ins C dx fs)) (l : fs.length < 1000) (q : c a dx fs) : ∃ a' dx' fs', V.ref a = .ref a' ∧ H a' = some (.ins C dx' fs') ∧ fs'.length < 1000 ∧ c a' dx' fs' := ⟨a, dx, fs, rfl, h, l, q⟩
theorem z_andV (q : ta σ H fun x H1 => ∃ c, x = .bl c ∧ if c = true then tb σ H1 Q else Q (.bl false) H1) : tAndV ta tb σ H Q := q
theorem z_orV (q : ta σ H fun x H1 => ∃ c, x = .bl c ∧ if c = true then Q (.bl true) H1 else tb σ H1 Q) : tOrV ta tb σ H Q := q
theorem z_bl {c : Bool → Prop} (q : c b) : ∃ c', V.bl b = .bl c' ∧ c c' := ⟨b, rfl, q⟩
theorem z_int {c : Int → Prop} (q : c n) : ∃ c', V.int n = .int c' ∧ c c' := ⟨n, rfl, q⟩
theorem z_chain (q : ta σ H fun x H1 => tb σ H1 fun y H2 => r x y H2 fun z H3 => ∃ k, z = .bl k ∧ (if k = true then tc σ H3 fun w' H4 => r' y w' H4 Q else Q (.bl false) H3)) : tChain r r' ta tb tc σ H Q := q
theorem z_test (q : ta σ H fun x H1 => ∃ k, x = .bl k ∧ QB k H1) : tTest ta σ H QB := q
theorem z_tB (q : ta σ H fun x H1 => ∃ k, x = .bl k ∧ QB k H1) : tB ta σ H QB := q
theorem z_and (q : tt σ H fun c H1 => if c = true then tu σ H1 QB else QB false H1) : tAnd tt tu σ H QB := q
theorem z_or (q : tt σ H fun c H1 => if c = true then QB true H1 else tu σ H1 QB) : tOr tt tu σ H QB := q
theorem z_not (q : tt σ H fun c H1 => QB (!c) H1) : tNot tt σ H QB := q
theorem z_tr (q : ta σ H fun x H1 => ∃ k, TruV K x H1 k ∧ QB k H1) : tTr K ta σ H QB := q
theorem z_truL {c : Bool → Prop} (h : SqL K H p xs) (q : c (!xs.isEmpty)) : ∃ k, TruV K (.ref p) H k ∧ c k := ⟨_, .inl ⟨xs, h, rfl⟩, q⟩
theorem z_if (q : tt σ H fun c H1 => if c = true then ta σ H1 Q else tb σ H1 Q) : tIf tt ta tb σ H Q := q
theorem z_nil (q : QA [] H) : tNil σ H QA := q
theorem z_cons (q : ta σ H fun x H1 => tas σ H1 fun xs H2 => QA (x :: xs) H2) : tCons ta tas σ H QA := q
theorem z_tup (q : tas σ H fun xs H1 => xs.length ≤ sizeLine ∧ ∀ p, H1 p = none → Q (.ref p) (upd H1 p (.tup xs))) : tTup tas σ H Q := q
theorem z_lst (q : tas σ H fun xs H1 => xs.length ≤ sizeLine ∧ ∀ p, H1 p = none → Q (.ref p) (upd H1 p (.lst xs))) : tLst tas σ H Q := q
theorem z_cb {rr : List V → Hp → VK → Prop} (q : tas σ H fun vs H1 => rr vs H1 Q) : tCB rr tas σ H Q := q
theorem z_lenS (h : s1.length ≤ sizeLine) (q : Q (.int s1.length) H) : rLn K [.str s1] H Q := ⟨.str s1, _, rfl, ⟨h, rfl⟩, q⟩
theorem z_lenL (h : SqL K H p xs) (q : Q (.int xs.length) H) : rLn K [.ref p] H Q := ⟨.ref p, _, rfl, .inl ⟨xs, h, rfl⟩, q⟩
theorem z_lenT (h : SqT K H p xs) (q : Q (.int xs.length) H) : rLn K [.ref p] H Q := ⟨.ref p, _, rfl, .inr ⟨xs, h, rfl⟩, q⟩
theorem z_ord (h : s1.length = 1) (q : Q (.int (s1.cps.getD 0 0 : Nat)) H) : rOrd [.str s1] H Q := ⟨s1, rfl, h, q⟩
theorem z_min (q : Q (.int (if m < n then m else n)) H) : rMin2 [.int n, .int m] H Q := ⟨n, m, rfl, q⟩
theorem z_max (q : Q (.int (if m > n then m else n)) H) : rMax2 [.int n, .int m] H Q := ⟨n, m, rfl, q⟩
theorem z_lo (h : SqL K H p xs) (q : ∀ l, H l = none → Q (.ref l) (upd H l (.lst xs))) : rLstOf K [.ref p] H Q := ⟨p, xs, rfl, .inl h, q⟩
theorem z_si (h : n.natAbs.log2 < 1920) (q : Q (.str (toString n)) H) : rStrI [.int n] H Q := ⟨n, rfl, h, q⟩
theorem z_call {sp : Sp} {E : L2.St → XK} (q : tas σ H fun vs H1 => sp vs H1 Q (E σ)) : tCallS sp E tas σ H Q := q
theorem z_mt {sp : Sp} {E : L2.St → XK} (q : ta σ H fun x H1 => ∃ a dx fs, x = .ref a ∧ H1 a = some (.ins C dx fs) ∧ fs.lookup f = none ∧ tas σ H1 fun vs H2 => sp (x :: vs) H2 Q (E σ)) : tMt C f sp E ta tas σ H Q := q
theorem z_mt1 {c : Prop} (h : H a = some (.ins C dx fs)) (l : fs.lookup f = none) (q : c) : ∃ a' dx' fs', V.ref a = .ref a' ∧ H a' = some (.ins C dx' fs') ∧ fs'.lookup f = none ∧ c := ⟨a, dx, fs, rfl, h, l, q⟩
theorem z_mk {sp : Sp} {E : L2.St → XK} (q : tas σ H fun vs H1 => ∀ x dx, H1 x = none → H1 dx = none → dx ≠ x → sp (.ref x :: vs) (upd (upd H1 dx (.own x)) x (.ins C dx [])) (fun v H2 => v = .non ∧ Q (.ref x) H2) (E σ)) : tMk C sp E tas σ H Q := q
theorem z_sl {rs : V → Option Int → Option Int → Hp → VK → Prop} {tl th : TO} (q : te σ H fun x H1 => tl σ H1 fun l H2 => th σ H2 fun u H3 => rs x l u H3 Q) : tSl rs te tl th σ H Q := q
theorem z_nop (q : QO none H) : tNoPart σ H QO := q
theorem z_part (q : te σ H fun x H1 => ∃ i, x = .int i ∧ QO (some i) H1) : tPart te σ H QO := q
theorem z_slL {lo hi : Option Int} (h : SqL K H p xs) (q : ∀ l, H l = none → Q (.ref l) (upd H l (.lst (cutV xs lo hi)))) : rSlL K (.ref p) lo hi H Q := ⟨p, xs, rfl, h, q⟩
theorem z_slS {lo hi : Option Int} (h : s1.length ≤ sizeLine) (q : Q (.str (cutS s1 lo hi)) H) : rSlS (.str s1) lo hi H Q := ⟨s1, rfl, h, q⟩
theorem z_ixL (h : SqL K H p xs) (e : atI xs n = some v) (q : Q v H) : rIxL K (.ref p) (.int n) H Q := ⟨p, xs, n, v, rfl, rfl, h, e, q⟩
theorem z_ixT (h : SqT K H p xs) (e : atI xs n = some v) (q : Q v H) : rIxT K (.ref p) (.int n) H Q := ⟨p, xs, n, v, rfl, rfl, h, e, q⟩
theorem z_ixS {c : Nat} (h : s1.length ≤ sizeLine) (e : atI s1.cps.toList n = some c) (q : Q (.str ⟨#[c]⟩) H) : rIxS (.str s1) (.int n) H Q := ⟨s1, n, c, rfl, rfl, h, e, q⟩
theorem z_bm {T : String} {rm : V → List V → Hp → VK → Prop} (q : to σ H fun x H1 => tyV K T x H1 ∧ tas σ H1 fun xs H2 => rm x xs H2 Q) : tBM K T rm to tas σ H Q := q
theorem z_bm0 {T : String} {rm : V → List V → Hp → VK → Prop} (q : to σ H fun x H1 => tyV K T x H1 ∧ rm x [] H1 Q) : tBM0 K T rm to σ H Q := q
theorem z_tyL {c : Prop} (h : SqL K H p xs) (q : c) : tyV K "list" (.ref p) H ∧ c := ⟨.inl ⟨rfl, xs, h⟩, q⟩
theorem z_tyS {c : Prop} (q : c) : tyV K "str" (.str s1) H ∧ c := ⟨rfl, q⟩
theorem z_app (h : H p = some (.lst xs)) (l : xs.length < sizeLine) (q : Q .non (upd H p (.lst (xs ++ [y])))) : rAppend (.ref p) [y] H Q := ⟨p, xs, y, rfl, rfl, h, l, q⟩
theorem z_pop (h : H p = some (.lst xs)) (e : xs[xs.length - 1]? = some y) (q : Q y (upd H p (.lst xs.dropLast))) : rPop (.ref p) [] H Q := ⟨p, xs, y, rfl, rfl, h, e, q⟩
theorem z_seq (q : t1 { D with nx := t2 D } σ H) : tSeq t1 t2 D σ H := q
theorem z_next (q : D.nx σ H) : tNext D σ H := q
theorem z_drop (q : te σ H fun _ H1 => D.nx σ H1) : tDrop te D σ H := q
theorem z_ret (q : te σ H D.rt) : tRet te D σ H := q
theorem z_retN (q : D.rt .non H) : tRetN D σ H := q
theorem z_ifS {c : TT} (q : c σ H fun b H1 => if b = true then t1 D σ H1 else t2 D σ H1) : tIfS c t1 t2 D σ H := q
theorem z_asg {g : TG} (q : te σ H fun x H1 => g x σ H1 D.nx) : tAsg te g D σ H := q
theorem z_gname {c : L2.St → Hp → Prop} (q : c (σ.set i (some v)) H) : gName i v σ H c := q
theorem z_gsub {tset : TSet} {c : L2.St → Hp → Prop} (q : to σ H fun o H1 => ta σ H1 fun i H2 => tset o i v H2 fun H3 => c σ H3) : gSub to ta tset v σ H c := q
theorem z_setL {c : Hp → Prop} {j : Nat} (h : H p = some (.lst xs)) (e : ixN xs.length n = some j) (q : c (upd H p (.lst (xs.set j v)))) : rSetL (.ref p) (.int n) v H c := ⟨p, xs, n, j, rfl, rfl, h, e, q⟩
theorem z_raise {W : WX} {cls : Value} (q : W cls none σ H) : tRaiseT W cls D σ H := q
theorem z_try {c : Value} {ts : Addr → Value → Option Addr → TS} {Wout : WX} {tbd : WX → TS} (q : tbd (wTrk K c i ts Wout D) D σ H) : tTry K c i ts Wout tbd D σ H := q
theorem z_imp {n : Nat} {c : Prop} (h : n ≤ sizeLine) (q : c) : n ≤ sizeLine ∧ c := ⟨h, q⟩
theorem z_wtrk {c cls : Value} {ts : Addr → Value → Option Addr → TS} {Wout : WX} (h : PySem.W.exmOne K cls c = some true) (q : ∀ a, H a = none → ts a cls none { nx := fun σ' H' => H' a = none → D.nx (σ'.set i none) (upd H' a (XO cls none a)), rt := fun v H' => H' a = none → D.rt v (upd H' a (XO cls none a)), bk := fun σ' H' => H' a = none → D.bk (σ'.set i none) (upd H' a (XO cls none a)), ct := fun σ' H' => H' a = none → D.ct (σ'.set i none) (upd H' a (XO cls none a)) } (σ.set i (some (.ref a))) H) : wTrk K c i ts Wout D cls none σ H := ⟨true, h, fun _ a ha => q a ha, fun z => nomatch z⟩
theorem z_ifT {b : Bool} {A B : Prop} (h : b = true) (q : A) : if b = true then A else B := by rw [h]; exact iteT q
theorem z_ifF {b : Bool} {A B : Prop} (h : b = false) (q : B) : if b = true then A else B := by rw [h]; exact iteF q
theorem ite_b {b : Bool} {A B : Prop} (h1 : b = true → A) (h2 : b = false → B) : if b = true then A else B := by
  cases b with
  | true => exact iteT (h1 rfl)
  | false => exact iteF (h2 rfl)
end
/-! ### heaps -/
theorem un_fresh {H : Hp} {q p : Addr} {o : HO} (h : upd H q o p = none) : p ≠ q ∧ H p = none := by
  by_cases e : p = q
  · subst e; rw [upd_same] at h; cases h
  · rw [upd_ne e] at h; exact ⟨e, h⟩

/-! ### comprehensions -/
section
variable {σ : L2.St} {H H1 : Hp} {Q : VK} {g : TG} {tt : TT} {te ta : TE} {vs : List Nat} {D : Addr} {Qd : Hp → Prop} {K : PySem.W.Frag}
/-- what a comprehension asks behind what it walks: the new list at D -/
def LcGo (J : It) (g : TG) (tt : TT) (te : TE) (vs : List Nat) (σ : L2.St) (D : Addr) (H1 : Hp) (Qd : Hp → Prop) : Prop := ∃ W : Nat → Nat → Hp → Prop, (∃ m, W 0 m (upd H1 D (.lst []))) ∧ ∀ i m H, W i m H →
  (J.stop i H ∧ Qd H) ∨ (J.go i H ∧ ∃ Nx : Hp → Prop, (∀ H', Nx H' → ∃ m', m' < m ∧ W (i + 1) m' H') ∧ ∀ x H', J.yld i H x H' → g x (wipe σ vs) H' fun σ2 H2 => wipe σ2 vs = wipe σ vs ∧ tt σ2 H2 fun b H3 =>
    if b = true then te σ2 H3 fun y H4 => ∃ acc, H4 D = some (.lst acc) ∧ acc.length < sizeLine ∧ Nx (upd H4 D (.lst (acc ++ [y]))) else Nx H3)
theorem z_yes {QB : Bool → Hp → Prop} (q : QB true H) : tYes σ H QB := q
theorem z_lc {wi : TI} (q : wi σ H fun J H1 => ∀ D, H1 D = none → LcGo J g tt te vs σ D H1 fun H2 => Q (.ref D) H2) : tLc wi g tt te vs σ H Q := q
theorem z_iStr {R : It → Hp → Prop} (q : ta σ H fun v H1 => ∃ x, v = .str x ∧ R (Its x) H1) : iStr ta σ H R := q
theorem z_iLst {R : It → Hp → Prop} (q : ta σ H fun v H1 => ∃ a, v = .ref a ∧ (∃ xs, SqL K H1 a xs) ∧ R (Itl K a) H1) : iList K ta σ H R := q
theorem z_iTup {R : It → Hp → Prop} (q : ta σ H fun v H1 => ∃ a, v = .ref a ∧ (∃ xs, SqT K H1 a xs) ∧ R (Itt K a) H1) : iTup K ta σ H R := q
theorem z_str {c : Str → Prop} {x : Str} (q : c x) : ∃ x', V.str x = .str x' ∧ c x' := ⟨x, rfl, q⟩
theorem z_sqL {c : Addr → Prop} {a : Addr} {xs : List V} (h : SqL K H a xs) (q : c a) : ∃ a', V.ref a = .ref a' ∧ (∃ xs, SqL K H a' xs) ∧ c a' := ⟨a, rfl, ⟨xs, h⟩, q⟩
theorem z_sqT {c : Addr → Prop} {a : Addr} {xs : List V} (h : SqT K H a xs) (q : c a) : ∃ a', V.ref a = .ref a' ∧ (∃ xs, SqT K H a' xs) ∧ c a' := ⟨a, rfl, ⟨xs, h⟩, q⟩
theorem lc_str {x : Str} (Pv : Nat → Hp → Prop) (h0 : Pv 0 (upd H1 D (.lst []))) (hs : ∀ i c H, x.cps[i]? = some c → Pv i H → g (.str ⟨#[c]⟩) (wipe σ vs) H fun σ2 H2 => wipe σ2 vs = wipe σ vs ∧ tt σ2 H2 fun b H3 =>
    if b = true then te σ2 H3 fun y H4 => ∃ acc, H4 D = some (.lst acc) ∧ acc.length < sizeLine ∧ Pv (i + 1) (upd H4 D (.lst (acc ++ [y]))) else Pv (i + 1) H3) (hd : ∀ H, Pv x.cps.size H → Qd H) : LcGo (Its x) g tt te vs σ D H1 Qd := by
  refine ⟨fun i m H => Pv i H ∧ i + m = x.cps.size, ⟨_, h0, Nat.zero_add _⟩, fun i m H ⟨p, e⟩ => ?_⟩
  by_cases hi : i < x.cps.size
  · refine .inr ⟨hi, Pv (i + 1), fun H' p' => ⟨m - 1, by omega, p', by omega⟩, ?_⟩
    rintro v H' ⟨rfl, c, hc, rfl⟩
    exact hs i c _ hc p
  · have ei : i = x.cps.size := by omega
    subst ei
    exact .inl ⟨Nat.le_refl _, hd H p⟩
/-- a comprehension over a text, each item a value that leaves the heap as it is -/
theorem lc_strP {x : Str} {j : Nat} (f : Nat → V) (hl : x.length < sizeLine) (hw : ∀ v, wipe ((wipe σ vs).set j (some v)) vs = wipe σ vs) (hn : H1 D = none)
    (he : ∀ (c : Nat) (H2 : Hp) (Q2 : VK), Same H1 H2 → Q2 (f c) H2 → te ((wipe σ vs).set j (some (.str ⟨#[c]⟩))) H2 Q2) (hd : Qd (upd H1 D (.lst ((tl x).map f)))) : LcGo (Its x) (gName j) tYes te vs σ D H1 Qd := by
  refine lc_str (fun i H2 => H2 = upd H1 D (.lst (((tl x).take i).map f))) (by simp) ?_ ?_
  · rintro i c H2 hc rfl
    refine ⟨hw _, z_yes (iteT ?_)⟩
    have hc' : (tl x)[i]? = some c := by unfold tl; rw [Array.getElem?_toList]; exact hc
    refine he c _ _ (fun b o e => by rw [upd_ne (ne_of_none e hn)]; exact e) ⟨_, upd_same, ?_, ?_⟩
    · rw [len_tl] at hl; simp; omega
    · rw [upd_upd, List.take_succ, hc']; simp
  · rintro H2 rfl
    rw [List.take_of_length_le (by unfold tl; simp)]
    exact hd
end
/-! ### all(..) of a list of truths -/
theorem z_all {H : Hp} {Q : VK} {K : PySem.W.Frag} {a : Addr} (bs : List Bool) (h : SqL K H a (bs.map V.bl)) (q : Q (.bl (bs.all id)) H) : rAll K [.ref a] H Q := ⟨a, bs, rfl, h, q⟩

/-! ### slices -/
def cutL {α : Type} (xs : List α) (lo hi : Option Int) : List α := (xs.drop (HT.sIx xs.length 0 lo)).take (HT.sIx xs.length xs.length hi - HT.sIx xs.length 0 lo)
theorem cutV_eq (xs : List V) (lo hi : Option Int) : cutV xs lo hi = cutL xs lo hi := rfl
theorem cutL_map {α β : Type} (f : α → β) (xs : List α) (lo hi : Option Int) : cutL (xs.map f) lo hi = (cutL xs lo hi).map f := by
  unfold cutL; rw [List.length_map, List.map_take, List.map_drop]
theorem cutS_eq (z : Str) (lo hi : Option Int) : cutS z lo hi = S (cutL (tl z) lo hi) := by
  unfold cutS cutL S tl; rw [len_tl]; rfl
theorem sIx_pos {n d : Nat} {k : Int} (h : 0 ≤ k) : HT.sIx n d (some k) = min k.toNat n := if_neg (by omega)
theorem sIx_neg {n d : Nat} {k : Int} (h : k < 0) : HT.sIx n d (some k) = (k + (n : Int)).toNat := if_pos h
section
variable {α : Type} (xs : List α)
theorem cutL_to {k : Int} (h : 0 ≤ k) : cutL xs none (some k) = xs.take k.toNat := by
  unfold cutL; rw [sIx_pos h, HT.sIx_none, List.drop_zero, Nat.sub_zero]
  by_cases e : k.toNat ≤ xs.length
  · rw [Nat.min_eq_left e]
  · rw [Nat.min_eq_right (by omega), List.take_length, List.take_of_length_le (by omega)]
theorem cutL_from {k : Int} (h : 0 ≤ k) : cutL xs (some k) none = xs.drop k.toNat := by
  unfold cutL; rw [sIx_pos h, HT.sIx_none]
  by_cases e : k.toNat ≤ xs.length
  · rw [Nat.min_eq_left e, List.take_of_length_le (by rw [List.length_drop]; omega)]
  · rw [Nat.min_eq_right (by omega), List.drop_length, List.drop_of_length_le (by omega)]; simp
theorem cutL_mid {a b : Int} (ha : 0 ≤ a) (hb : 0 ≤ b) : cutL xs (some a) (some b) = (xs.drop a.toNat).take (b.toNat - a.toNat) := by
  unfold cutL; rw [sIx_pos ha, sIx_pos hb]
  by_cases e : a.toNat ≤ xs.length
  · rw [Nat.min_eq_left e]
    by_cases e2 : b.toNat ≤ xs.length
    · rw [Nat.min_eq_left e2]
    · rw [Nat.min_eq_right (by omega), List.take_of_length_le (by rw [List.length_drop]; omega), List.take_of_length_le (by rw [List.length_drop]; omega)]
  · have e1 : min a.toNat xs.length = xs.length := by omega
    rw [e1, List.drop_length, List.drop_of_length_le (by omega)]; simp
theorem cutL_lastOff : cutL xs none (some (-1)) = xs.dropLast := by
  unfold cutL; rw [sIx_neg (by decide), HT.sIx_none, List.drop_zero, Nat.sub_zero, List.dropLast_eq_take]
  congr 1; omega
theorem cutL_lastN {k : Int} (h : 0 < k) : cutL xs (some (-k)) none = xs.drop (xs.length - k.toNat) := by
  unfold cutL; rw [sIx_neg (by omega), HT.sIx_none, List.take_of_length_le (by rw [List.length_drop]; omega)]
  congr 1; omega
end
/-! ### what stays -/
/-- all that was tracked is as it was, but at the addresses S -/
def Fr (S : List Addr) (H H' : Hp) : Prop := ∀ b o, H b = some o → b ∉ S → H' b = some o
theorem Fr.refl {S : List Addr} {H : Hp} : Fr S H H := fun _ _ e _ => e
theorem Fr.same {S : List Addr} {H H' : Hp} (h : Same H H') : Fr S H H' := fun b o e _ => h b o e
theorem Fr.trans {S : List Addr} {H H1 H2 : Hp} (h1 : Fr S H H1) (h2 : Fr S H1 H2) : Fr S H H2 := fun b o e n => h2 b o (h1 b o e n) n
theorem Fr.upd {S : List Addr} {H H' : Hp} {a : Addr} {o : HO} (h : Fr S H H') (ha : a ∈ S) : Fr S H (upd H' a o) := fun b u e n => by
  rw [upd_ne (fun z : b = a => n (by rw [z]; exact ha))]; exact h b u e n
theorem Fr.new {S : List Addr} {H H' : Hp} {a : Addr} {o : HO} (h : Fr S H H') (ha : H' a = none) : Fr S H (L2.upd H' a o) := fun b u e n => by
  rw [upd_ne (ne_of_none (h b u e n) ha)]; exact h b u e n
/-- an object that H does not know may change -/
theorem Fr.own {S : List Addr} {H H' : Hp} {a : Addr} {o : HO} (h : Fr S H H') (ha : H a = none) : Fr S H (L2.upd H' a o) := fun b u e n => by
  rw [upd_ne (ne_of_none e ha)]; exact h b u e n
theorem Fr.mono {S T : List Addr} {H H' : Hp} (h : Fr S H H') (st : ∀ a ∈ S, a ∈ T) : Fr T H H' := fun b o e n => h b o e fun z => n (st b z)
theorem Fr.to {S : List Addr} {H H' : Hp} (h : Fr S H H') {b : Addr} {o : HO} (e : H b = some o) (n : b ∉ S) : H' b = some o := h b o e n
/-- changes at addresses that are new to H are no changes of it -/
theorem Fr.drop {S : List Addr} {H H1 H2 : Hp} (h1 : Same H H1) (h2 : Fr S H1 H2) (n : ∀ a ∈ S, H a = none) : Same H H2 := fun b o e => h2 b o (h1 b o e) fun z => by
  rw [n b z] at e; cases e
theorem Same.fr {H H' : Hp} (h : Fr [] H H') : Same H H' := fun b o e => h b o e (by simp)
theorem Same.new {H H' : Hp} {a : Addr} {o : HO} (h : Same H H') (ha : H' a = none) : Same H (upd H' a o) := fun b u e => by
  rw [upd_ne (ne_of_none (h b u e) ha)]; exact h b u e
theorem Same.own {H H' : Hp} {a : Addr} {o : HO} (h : Same H H') (ha : H a = none) : Same H (upd H' a o) := fun b u e => by
  rw [upd_ne (ne_of_none e ha)]; exact h b u e
theorem fresh_of {H H' : Hp} (h : Same H H') {a : Addr} (e : H' a = none) : H a = none := Same.free h e
theorem not_mem1 {a b : Addr} (h : b ≠ a) : b ∉ [a] := by simp [h]
theorem not_mem2 {a c b : Addr} (h : b ≠ a) (h2 : b ≠ c) : b ∉ [a, c] := by simp [h, h2]
theorem fl_of {fs : List (Str × V)} (h : Nat.blt fs.length 1000 = true) : fs.length < 1000 := Nat.blt_eq.mp h
/-! ### the script; things that may change -/
def Mu (H : Hp) (b : Addr) : Prop := ∀ o u, H b ≠ some (.frz o u)
theorem Mu.lst {H : Hp} {b : Addr} {xs : List V} (h : H b = some (.lst xs)) : Mu H b := fun o u e => by rw [h] at e; cases e
theorem Mu.ins {H : Hp} {b C dx : Addr} {fs : List (Str × V)} (h : H b = some (.ins C dx fs)) : Mu H b := fun o u e => by rw [h] at e; cases e
theorem Mu.dK {H : Hp} {b : Addr} {xs : List (Key × V)} (h : H b = some (.dK xs)) : Mu H b := fun o u e => by rw [h] at e; cases e
theorem Mu.non {H : Hp} {b : Addr} (h : H b = none) : Mu H b := fun o u e => by rw [h] at e; cases e
/-- the script: a list of at most 63 ints, read only -/
def Scr (K : PySem.W.Frag) (H : Hp) (a : Addr) (ns : List Int) : Prop := ns.length ≤ 63 ∧ ((∃ o, H a = some (.frz o (.lst (ns.map V.int)))) ∨ SqL K (fun _ => none) a (ns.map V.int))
theorem Scr.sq {K : PySem.W.Frag} {H : Hp} {a : Addr} {ns : List Int} (s : Scr K H a ns) : SqL K H a (ns.map V.int) := by
  rcases s.2 with ⟨o, h⟩ | (h | ⟨o, h⟩) | h
  · exact .inl (.inr ⟨o, h⟩)
  · cases h
  · cases h
  · exact .inr h
theorem Scr.fr {K : PySem.W.Frag} {H H' : Hp} {a : Addr} {ns : List Int} {S : List Addr} (s : Scr K H a ns) (f : Fr S H H') (hS : ∀ b ∈ S, Mu H b) : Scr K H' a ns := by
  refine ⟨s.1, ?_⟩
  rcases s.2 with ⟨o, h⟩ | h
  · exact .inl ⟨o, f a _ h fun z => hS a z _ _ h⟩
  · exact .inr h
theorem Scr.same {K : PySem.W.Frag} {H H' : Hp} {a : Addr} {ns : List Int} (s : Scr K H a ns) (f : Same H H') : Scr K H' a ns := s.fr (S := []) (Fr.same f) (by simp)
theorem Scr.upd {K : PySem.W.Frag} {H : Hp} {a t : Addr} {o : HO} {ns : List Int} (s : Scr K H a ns) (h : Mu H t) : Scr K (L2.upd H t o) a ns := s.fr (S := [t]) (Fr.upd Fr.refl (by simp)) (by simpa using h)
theorem Scr.of {K : PySem.W.Frag} {H : Hp} {a : Addr} {ns : List Int} (hl : ns.length ≤ 63) (ho : Only H) (h : SqL K H a (ns.map V.int)) : Scr K H a ns := by
  refine ⟨hl, ?_⟩
  rcases h with (h | ⟨o, h⟩) | h
  · rcases ho a with z | ⟨o, xs, z⟩
    · rw [z] at h; cases h
    · rw [z] at h; cases h
  · exact .inl ⟨o, h⟩
  · exact .inr (.inr h)
theorem z_isX {H : Hp} {Q : VK} {K : PySem.W.Frag} {a D : Addr} {c : V} {cv : Value} {b : Bool} (h : H a = some (XO (.ref D) none a)) (hD : ExcC K D) (hc : ClsV c cv) (hk : PySem.W.kitOne K (.ref D) cv = some b) (q : Q (.bl b) H) : rIsX K [.ref a, c] H Q := ⟨a, D, c, cv, b, rfl, h, hD, hc, hk, q⟩
theorem z_count {H : Hp} {Q : VK} {K : PySem.W.Frag} {a : Addr} {ys : List V} {y : V} (h : SqL K H a ys) (fy : flatV y = true) (fys : ys.all flatV = true) (q : Q (.int (ys.countP fun z => eqV z y : Nat)) H) : rCount K (.ref a) [y] H Q := ⟨a, ys, y, rfl, rfl, h, fy, fys, q⟩
theorem z_index {H : Hp} {Q : VK} {K : PySem.W.Frag} {a : Addr} {ys : List V} {y z : V} (j : Nat) (h : SqL K H a ys) (fy : flatV y = true) (fys : ys.all flatV = true) (e : ys[j]? = some z) (ez : eqV z y = true) (hn : ∀ (m : Nat) (z' : V), m < j → ys[m]? = some z' → eqV z' y = false) (q : Q (.int (j : Nat)) H) : rIndex K (.ref a) [y] H Q := ⟨a, ys, y, j, z, rfl, rfl, h, fy, fys, e, ez, hn, q⟩
/-! ### rings -/
def ringF (m : Int) (l : Addr) (s : Int) : List (Str × V) := [("most", .int m), ("texts", .ref l), ("spot", .int s)]
structure RingAt (K : PySem.W.Frag) (H : Hp) (p l : Addr) (m : Int) (ts : List Str) (s : Int) : Prop where
  ob : ∃ dx, H p = some (.ins (He.ga K "Ring") dx (ringF m l s))
  ls : H l = some (.lst (ts.map V.str))
theorem RingAt.same {K : PySem.W.Frag} {H H' : Hp} {p l : Addr} {m : Int} {ts : List Str} {s : Int} (R : RingAt K H p l m ts s) (h : Same H H') : RingAt K H' p l m ts s :=
  ⟨let ⟨dx, e⟩ := R.ob; ⟨dx, h _ _ e⟩, h _ _ R.ls⟩
def pushR (m : Int) (x : Str) (ts : List Str) : List Str := if x = "" then ts else (x :: ts).take m.toNat
def joinR (m : Int) (x : Str) (ahead : Bool) (ts : List Str) : List Str := match ts with
  | [] => pushR m x []
  | t :: r => (if ahead then x ++ t else t ++ x) :: r

/-! ### loops -/
section
variable {σ : L2.St} {H : Hp} {D : Ends} {g : TG} {tb : TS} {ta : TA} {te : TE} {R : It → Hp → Prop} {K : PySem.W.Frag}
def ForGo (J : It) (g : TG) (tb : TS) (D : Ends) (σ : L2.St) (H1 : Hp) : Prop := ∃ W : Nat → Nat → L2.St → Hp → Prop, (∃ m, W 0 m σ H1) ∧ ∀ i m σ H, W i m σ H →
  (J.stop i H ∧ D.nx σ H) ∨ (J.go i H ∧ ∃ N : L2.St → Hp → Prop, (∀ σ' H', N σ' H' → ∃ m', m' < m ∧ W (i + 1) m' σ' H') ∧ ∀ x H', J.yld i H x H' → g x σ H' fun σ2 H2 => tb { D with nx := N, ct := N, bk := D.nx } σ2 H2)
theorem z_for {wi : TI} (q : wi σ H fun J H1 => ForGo J g tb D σ H1) : tFor wi g tb D σ H := q
theorem z_rng1 (q : ta σ H fun vs H1 => ∃ j : Int, vs = [.int j] ∧ -(2 ^ 62) ≤ j ∧ j < 2 ^ 62 ∧ R (Itr 0 j.toNat) H1) : iRng1 ta σ H R := q
theorem z_rng1e {n : Int} {c : Int → Prop} (h1 : -(2 ^ 62) ≤ n) (h2 : n < 2 ^ 62) (q : c n) : ∃ j : Int, [V.int n] = [.int j] ∧ -(2 ^ 62) ≤ j ∧ j < 2 ^ 62 ∧ c j := ⟨n, rfl, h1, h2, q⟩
theorem z_rng2 (q : ta σ H fun vs H1 => ∃ i j : Int, vs = [.int i, .int j] ∧ (-(2 ^ 62) ≤ i ∧ i < 2 ^ 62 ∧ -(2 ^ 62) ≤ j ∧ j < 2 ^ 62) ∧ R (Itr i (j - i).toNat) H1) : iRng2 ta σ H R := q
theorem z_rng2e {n m : Int} {c : Int → Int → Prop} (h : -(2 ^ 62) ≤ n ∧ n < 2 ^ 62 ∧ -(2 ^ 62) ≤ m ∧ m < 2 ^ 62) (q : c n m) : ∃ i j : Int, [V.int n, V.int m] = [.int i, .int j] ∧ (-(2 ^ 62) ≤ i ∧ i < 2 ^ 62 ∧ -(2 ^ 62) ≤ j ∧ j < 2 ^ 62) ∧ c i j := ⟨n, m, rfl, h, q⟩
theorem fg_range {lo : Int} {n : Nat} (Pv : Nat → L2.St → Hp → Prop) (h0 : Pv 0 σ H) (hs : ∀ i σ H, i < n → Pv i σ H → g (.int (lo + i)) σ H fun σ2 H2 => tb { D with nx := Pv (i + 1), ct := Pv (i + 1), bk := D.nx } σ2 H2) (hd : ∀ σ H, Pv n σ H → D.nx σ H) : ForGo (Itr lo n) g tb D σ H := for_range Pv h0 hs hd
theorem fg_list {a : Addr} {xs : List V} (Pv : Nat → L2.St → Hp → Prop) (h0 : Pv 0 σ H) (hl : ∀ i σ H, i ≤ xs.length → Pv i σ H → SqL K H a xs) (hs : ∀ i x σ H, xs[i]? = some x → Pv i σ H → g x σ H fun σ2 H2 => tb { D with nx := Pv (i + 1), ct := Pv (i + 1), bk := D.nx } σ2 H2) (hd : ∀ σ H, Pv xs.length σ H → D.nx σ H) : ForGo (Itl K a) g tb D σ H := for_list Pv h0 hl hs hd
theorem fg_tup {a : Addr} {xs : List V} (Pv : Nat → L2.St → Hp → Prop) (h0 : Pv 0 σ H) (hl : ∀ i σ H, i ≤ xs.length → Pv i σ H → SqT K H a xs) (hs : ∀ i x σ H, xs[i]? = some x → Pv i σ H → g x σ H fun σ2 H2 => tb { D with nx := Pv (i + 1), ct := Pv (i + 1), bk := D.nx } σ2 H2) (hd : ∀ σ H, Pv xs.length σ H → D.nx σ H) : ForGo (Itt K a) g tb D σ H := for_tup Pv h0 hl hs hd
theorem lg_range {lo : Int} {n : Nat} {tt : TT} {vs : List Nat} {D : Addr} {Qd : Hp → Prop} (Pv : Nat → Hp → Prop) (h0 : Pv 0 (upd H D (.lst []))) (hs : ∀ i H, i < n → Pv i H → g (.int (lo + i)) (wipe σ vs) H fun σ2 H2 => wipe σ2 vs = wipe σ vs ∧ tt σ2 H2 fun b H3 => if b = true then te σ2 H3 fun y H4 => ∃ acc, H4 D = some (.lst acc) ∧ acc.length < sizeLine ∧ Pv (i + 1) (upd H4 D (.lst (acc ++ [y]))) else Pv (i + 1) H3) (hd : ∀ H, Pv n H → Qd H) : LcGo (Itr lo n) g tt te vs σ D H Qd := lc_range Pv h0 hs hd
theorem lg_list {a : Addr} {xs : List V} {tt : TT} {vs : List Nat} {D : Addr} {Qd : Hp → Prop} (Pv : Nat → Hp → Prop) (h0 : Pv 0 (upd H D (.lst []))) (hl : ∀ i H, i ≤ xs.length → Pv i H → SqL K H a xs) (hs : ∀ i x H, xs[i]? = some x → Pv i H → g x (wipe σ vs) H fun σ2 H2 => wipe σ2 vs = wipe σ vs ∧ tt σ2 H2 fun b H3 => if b = true then te σ2 H3 fun y H4 => ∃ acc, H4 D = some (.lst acc) ∧ acc.length < sizeLine ∧ Pv (i + 1) (upd H4 D (.lst (acc ++ [y]))) else Pv (i + 1) H3) (hd : ∀ H, Pv xs.length H → Qd H) : LcGo (Itl K a) g tt te vs σ D H Qd := lc_list Pv h0 hl hs hd
theorem lg_tup {a : Addr} {xs : List V} {tt : TT} {vs : List Nat} {D : Addr} {Qd : Hp → Prop} (Pv : Nat → Hp → Prop) (h0 : Pv 0 (upd H D (.lst []))) (hl : ∀ i H, i ≤ xs.length → Pv i H → SqT K H a xs) (hs : ∀ i x H, xs[i]? = some x → Pv i H → g x (wipe σ vs) H fun σ2 H2 => wipe σ2 vs = wipe σ vs ∧ tt σ2 H2 fun b H3 => if b = true then te σ2 H3 fun y H4 => ∃ acc, H4 D = some (.lst acc) ∧ acc.length < sizeLine ∧ Pv (i + 1) (upd H4 D (.lst (acc ++ [y]))) else Pv (i + 1) H3) (hd : ∀ H, Pv xs.length H → Qd H) : LcGo (Itt K a) g tt te vs σ D H Qd := lc_tup Pv h0 hl hs hd
/-- while: an invariant and a measure -/
theorem z_while {c : TT} (Pv : Nat → L2.St → Hp → Prop) (m0 : Nat) (h0 : Pv m0 σ H) (hs : ∀ m σ H, Pv m σ H → c σ H fun b H1 => if b = true then ∃ N : L2.St → Hp → Prop, (∀ σ' H', N σ' H' → ∃ m', m' < m ∧ Pv m' σ' H') ∧ tb { D with nx := N, ct := N, bk := D.nx } σ H1 else D.nx σ H1) : tWhile c tb D σ H := ⟨Pv, ⟨m0, h0⟩, hs⟩
theorem z_turn {m : Nat} {Pv : Nat → L2.St → Hp → Prop} (q : tb { D with nx := fun σ' H' => ∃ m', m' < m ∧ Pv m' σ' H', ct := fun σ' H' => ∃ m', m' < m ∧ Pv m' σ' H', bk := D.nx } σ H) : ∃ N : L2.St → Hp → Prop, (∀ σ' H', N σ' H' → ∃ m', m' < m ∧ Pv m' σ' H') ∧ tb { D with nx := N, ct := N, bk := D.nx } σ H := ⟨_, fun _ _ h => h, q⟩
theorem z_rep {Q : VK} {l : Addr} {k : Int} {xs : List V} (h : H l = some (.lst xs)) (h1 : -(2 ^ 63) ≤ k) (h2 : k < 2 ^ 63) (h3 : xs.length * k.toNat ≤ sizeLine) (q : ∀ p, H p = none → Q (.ref p) (upd H p (.lst (List.replicate k.toNat xs).flatten))) : rRep (.ref l) (.int k) H Q := ⟨l, k, xs, rfl, rfl, h, h1, h2, h3, q⟩
theorem z_in {Q : VK} {neg : Bool} {x : V} {p : Addr} {xs : List V} (h : SqL K H p xs ∨ SqT K H p xs) (fx : flatV x = true) (fs : xs.all flatV = true) (q : Q (.bl (if neg then !inV x xs else inV x xs)) H) : rIn K neg x (.ref p) H Q := ⟨p, xs, rfl, h, fx, fs, q⟩
end
theorem mem_strs {v : V} {ws : List Str} (h : v ∈ ws.map V.str) : ∃ w, w ∈ ws ∧ v = .str w := by
  obtain ⟨w, hw, rfl⟩ := List.mem_map.mp h
  exact ⟨w, hw, rfl⟩
theorem z_cut {D : Ends} {σ : L2.St} {H : Hp} {tu tz : TS} (M : L2.St → Hp → Prop) (h : tu { D with nx := M } σ H) (q : ∀ σ' H', M σ' H' → tz D σ' H') : Evl.tCut tu tz D σ H := ⟨M, h, q⟩
theorem si_ok {n : Int} (h : n.natAbs < 1920) : n.natAbs.log2 < 1920 := Nat.lt_of_le_of_lt (Nat.log2_le_self _) h
/-! ### deep equality -/
mutual
theorem eqv_refl : ∀ (d : PyData), d.canLay0 = true → PyData.eqv d d = true
  | .none, _ => by simp only [PyData.eqv]
  | .bool b, _ => by simp only [PyData.eqv, beq_self_eq_true]
  | .int i, _ => by simp only [PyData.eqv, beq_self_eq_true]
  | .str x, _ => by simp only [PyData.eqv, beq_self_eq_true]
  | .list xs, h => by simp only [PyData.eqv]; exact eqvAll_refl xs (by simpa only [PyData.canLay0] using h)
  | .tuple xs, h => by simp only [PyData.eqv]; exact eqvAll_refl xs (by simpa only [PyData.canLay0] using h)
  | .dict _, h => by simp [PyData.canLay0] at h
theorem eqvAll_refl : ∀ (ds : List PyData), PyData.canLayAll0 ds = true → PyData.eqvAll ds ds = true
  | [], _ => by simp only [PyData.eqvAll]
  | d :: ds, h => by
    simp only [PyData.canLayAll0, Bool.and_eq_true] at h
    simp only [PyData.eqvAll, Bool.and_eq_true]
    exact ⟨eqv_refl d h.1, eqvAll_refl ds h.2⟩
end
section
variable {K : PySem.W.Frag} {H : Hp} {Q : VK} {x y : V} {d e : PyData} {a : Addr} {xs : List V} {ds : List PyData}
theorem lay_of (h : SeqAt.shaped d = true) : d.canLay0 = true := SeqAt.canLay_of_shaped h
theorem z_neD (hx : Dp K H x d) (hy : Dp K H y e) (sd : SeqAt.shaped d = true) (se : SeqAt.shaped e = true) (q : Q (.bl (!PyData.eqv d e)) H) : rNeD K x y H Q := ⟨d, e, hx, hy, sd, se, q⟩
theorem z_eqD (hx : Dp K H x d) (hy : Dp K H y e) (sd : SeqAt.shaped d = true) (se : SeqAt.shaped e = true) (q : Q (.bl (PyData.eqv d e)) H) : rEqD K x y H Q := ⟨d, e, hx, hy, sd, se, q⟩
theorem z_neS (hx : Dp K H x d) (hy : Dp K H y d) (sd : SeqAt.shaped d = true) (q : Q (.bl false) H) : rNeD K x y H Q := ⟨d, d, hx, hy, sd, sd, by rw [eqv_refl d (lay_of sd)]; exact q⟩
theorem z_eqS (hx : Dp K H x d) (hy : Dp K H y d) (sd : SeqAt.shaped d = true) (q : Q (.bl true) H) : rEqD K x y H Q := ⟨d, d, hx, hy, sd, sd, by rw [eqv_refl d (lay_of sd)]; exact q⟩
def strD (ts : List Str) : PyData := .list (ts.map .str)
theorem dpAll_strs : ∀ (ts : List Str), DpAll K H (ts.map V.str) (ts.map .str)
  | [] => .nil
  | t :: r => .cons (.str t) (dpAll_strs r)
theorem dp_strs {ts : List Str} (h : SqL K H a (ts.map V.str)) : Dp K H (.ref a) (strD ts) := .lst h (dpAll_strs ts)
/-- texts of plain signs -/
def plainS (x : Str) : Bool := (tl x).all fun c => decide (c < 128)
theorem strOk_plain {x : Str} (h : plainS x = true) : PyData.strOk x = true := by
  unfold plainS tl at h
  unfold PyData.strOk
  rw [← Array.all_toList]
  rw [List.all_eq_true] at h ⊢
  intro c hc
  have := of_decide_eq_true (h c hc)
  exact decide_eq_true (by omega)
theorem lay_strs : ∀ {ts : List Str}, (∀ t ∈ ts, plainS t = true) → PyData.canLayAll0 (ts.map .str) = true
  | [], _ => by simp only [List.map_nil, PyData.canLayAll0]
  | t :: r, h => by
    simp only [List.map_cons, PyData.canLayAll0, PyData.canLay0, Bool.and_eq_true]
    exact ⟨strOk_plain (h t (by simp)), lay_strs fun z hz => h z (by simp [hz])⟩
theorem depth_strs : ∀ (ts : List Str), PyData.depthAll (ts.map .str) ≤ 1
  | [] => by simp [PyData.depthAll]
  | t :: r => by
    have := depth_strs r
    simp only [List.map_cons, PyData.depthAll, PyData.depth]
    omega
theorem shaped_str {x : Str} (h : plainS x = true) : SeqAt.shaped (.str x) = true := by
  unfold SeqAt.shaped
  simp only [PyData.canLay0, PyData.depth, strOk_plain h, Bool.true_and]
  rfl
theorem shaped_strs {ts : List Str} (h : ∀ t ∈ ts, plainS t = true) : SeqAt.shaped (strD ts) = true := by
  unfold SeqAt.shaped strD
  have := depth_strs ts
  simp only [PyData.canLay0, PyData.depth, lay_strs h, Bool.true_and]
  exact decide_eq_true (by omega)
end
section
variable {K : PySem.W.Frag} {H : Hp} {a : Addr}
def intD (ns : List Int) : PyData := .list (ns.map .int)
theorem dpAll_ints : ∀ (ns : List Int), DpAll K H (ns.map V.int) (ns.map .int)
  | [] => .nil
  | t :: r => .cons (.int t) (dpAll_ints r)
theorem dp_ints {ns : List Int} (h : SqL K H a (ns.map V.int)) : Dp K H (.ref a) (intD ns) := .lst h (dpAll_ints ns)
theorem lay_ints : ∀ (ns : List Int), PyData.canLayAll0 (ns.map .int) = true
  | [] => by simp only [List.map_nil, PyData.canLayAll0]
  | t :: r => by simp only [List.map_cons, PyData.canLayAll0, PyData.canLay0, lay_ints r, Bool.and_self]
theorem depth_ints : ∀ (ns : List Int), PyData.depthAll (ns.map .int) ≤ 1
  | [] => by simp [PyData.depthAll]
  | t :: r => by
    have := depth_ints r
    simp only [List.map_cons, PyData.depthAll, PyData.depth]
    omega
theorem shaped_ints (ns : List Int) : SeqAt.shaped (intD ns) = true := by
  unfold SeqAt.shaped intD
  have := depth_ints ns
  simp only [PyData.canLay0, PyData.depth, lay_ints ns, Bool.true_and]
  exact decide_eq_true (by omega)
theorem eqv_ints_nil (ns : List Int) : PyData.eqv (intD ns) (intD []) = ns.isEmpty := by
  cases ns with
  | nil => simp [intD, PyData.eqv, PyData.eqvAll]
  | cons t r => simp [intD, PyData.eqv, PyData.eqvAll]
theorem shaped_int (i : Int) : SeqAt.shaped (.int i) = true := by
  unfold SeqAt.shaped
  simp only [PyData.canLay0, PyData.depth, Bool.true_and]
  rfl
end
/-! ### lists of refusals -/
section
variable {K : PySem.W.Frag} {H H1 : Hp} {Q : VK} {σ : L2.St} {te : TE} {vs : List Nat} {D : Addr} {Qd : Hp → Prop}
def refD (w : Str) : PyData := .tuple [.str "refused", .str w]
def refsD (n : Nat) (w : Str) : PyData := .list (List.replicate n (refD w))
theorem dp_ref {r : Addr} {w : Str} (h : H r = some (.tup [.str "refused", .str w])) : Dp K H (.ref r) (refD w) := .tup (SqT.of h) (.cons (.str _) (.cons (.str _) .nil))
theorem dpAll_refs {w : Str} : ∀ {rs : List Addr}, (∀ r ∈ rs, H r = some (.tup [.str "refused", .str w])) → DpAll K H (rs.map V.ref) (List.replicate rs.length (refD w))
  | [], _ => .nil
  | r :: rs, h => .cons (dp_ref (h r (by simp))) (dpAll_refs fun z hz => h z (by simp [hz]))
theorem dp_refs {a : Addr} {w : Str} {rs : List Addr} {n : Nat} (h : H a = some (.lst (rs.map V.ref))) (hn : rs.length = n) (hr : ∀ r ∈ rs, H r = some (.tup [.str "refused", .str w])) : Dp K H (.ref a) (refsD n w) := by
  rw [← hn]; exact .lst (SqL.of h) (dpAll_refs hr)
theorem lay_refs {w : Str} (h : plainS w = true) : ∀ n, PyData.canLayAll0 (List.replicate n (refD w)) = true
  | 0 => by simp [PyData.canLayAll0]
  | n + 1 => by
    simp only [List.replicate_succ, PyData.canLayAll0, lay_refs h n, Bool.and_true, refD, PyData.canLay0, Bool.and_eq_true]
    exact ⟨⟨strOk_plain (x := "refused") (by decide +kernel), strOk_plain h⟩, lay_refs h n⟩
theorem depth_refs {w : Str} : ∀ n, PyData.depthAll (List.replicate n (refD w)) ≤ 3
  | 0 => by simp [PyData.depthAll]
  | n + 1 => by
    have := depth_refs (w := w) n
    simp only [List.replicate_succ, PyData.depthAll, refD, PyData.depth]
    simp only [refD] at this
    omega
theorem shaped_refs {w : Str} (h : plainS w = true) (n : Nat) : SeqAt.shaped (refsD n w) = true := by
  unfold SeqAt.shaped refsD
  have := depth_refs (w := w) n
  simp only [PyData.canLay0, PyData.depth, lay_refs h, Bool.true_and]
  exact decide_eq_true (by omega)
/-- the items of a comprehension are refusals, each a new tuple -/
def RefGo (te : TE) (σ : L2.St) (w : Str) (H1 : Hp) : Prop := ∀ (H2 : Hp) (Q2 : VK), Same H1 H2 → (∀ r H3, H2 r = none → Same H2 H3 → H3 r = some (.tup [.str "refused", .str w]) → Q2 (.ref r) H3) → te σ H2 Q2
def RefEnd (H1 : Hp) (D : Addr) (n : Nat) (w : Str) (H' : Hp) : Prop := Same H1 H' ∧ ∃ rs : List Addr, H' D = some (.lst (rs.map V.ref)) ∧ rs.length = n ∧ ∀ r ∈ rs, H' r = some (.tup [.str "refused", .str w])
theorem ref_turn {n i : Nat} {w : Str} {H2 : Hp} {σ2 : L2.St} (hn : n < 1000) (hi : i < n) (hD : H1 D = none) (p : RefEnd H1 D i w H2) (he : RefGo te σ2 w H1) : te σ2 H2 fun y H4 => ∃ acc, H4 D = some (.lst acc) ∧ acc.length < sizeLine ∧ RefEnd H1 D (i + 1) w (upd H4 D (.lst (acc ++ [y]))) := by
  obtain ⟨s2, rs, hd, hl, hr⟩ := p
  refine he H2 _ s2 fun r H3 r0 s3 h3 => ⟨rs.map V.ref, s3 _ _ hd, by rw [List.length_map, sizeLine_eq]; omega, ?_⟩
  have nrD : r ≠ D := (ne_of_none hd r0).symm
  refine ⟨Same.own (Same.trans s2 s3) hD, rs ++ [r], by rw [upd_same, List.map_append]; rfl, by simp [hl], fun z hz => ?_⟩
  have nz : z ≠ D := by
    rcases List.mem_append.mp hz with q | q
    · exact ne_of (hr z q) hd (by intro z; cases z)
    · rw [List.mem_singleton.mp q]; exact nrD
  rw [upd_ne nz]
  rcases List.mem_append.mp hz with q | q
  · exact s3 _ _ (hr z q)
  · rw [List.mem_singleton.mp q]; exact h3
theorem lc_refTup {a : Addr} {xs : List V} {j : Nat} {w : Str} (hT : SqT K H1 a xs) (hn : xs.length < 1000) (hw : ∀ v, wipe ((wipe σ vs).set j (some v)) vs = wipe σ vs) (hD : H1 D = none) (he : ∀ x ∈ xs, RefGo te ((wipe σ vs).set j (some x)) w H1) (hd : ∀ H', RefEnd H1 D xs.length w H' → Qd H') : LcGo (Itt K a) (gName j) tYes te vs σ D H1 Qd := by
  refine lg_tup (K := K) (xs := xs) (fun i H2 => RefEnd H1 D i w H2) ⟨Same.own (Same.refl _) hD, [], upd_same, rfl, by simp⟩ (fun i H2 _ p => Evl.ex_t p.1 hT) ?_ hd
  intro i x H2 hx p
  exact ⟨hw _, z_yes (iteT (ref_turn hn (List.getElem?_eq_some_iff.mp hx).1 hD p (he x (List.mem_of_getElem? hx))))⟩
theorem lc_refRng {n : Nat} {lo : Int} {j : Nat} {w : Str} (hn : n < 1000) (hw : ∀ v, wipe ((wipe σ vs).set j (some v)) vs = wipe σ vs) (hD : H1 D = none) (he : ∀ i, i < n → RefGo te ((wipe σ vs).set j (some (.int (lo + (i : Nat))))) w H1) (hd : ∀ H', RefEnd H1 D n w H' → Qd H') : LcGo (Itr lo n) (gName j) tYes te vs σ D H1 Qd := by
  refine lg_range (fun i H2 => RefEnd H1 D i w H2) ⟨Same.own (Same.refl _) hD, [], upd_same, rfl, by simp⟩ ?_ hd
  intro i H2 hi p
  exact ⟨hw _, z_yes (iteT (ref_turn hn hi hD p (he i hi)))⟩
/-- [("refused", w)] * n -/
theorem dp_rep {a r : Addr} {w : Str} (n : Nat) (h : H a = some (.lst (List.replicate n [V.ref r]).flatten)) (hr : H r = some (.tup [.str "refused", .str w])) : Dp K H (.ref a) (refsD n w) := by
  have e : (List.replicate n [V.ref r]).flatten = (List.replicate n r).map V.ref := by
    induction n with
    | zero => rfl
    | succ n ih => rw [List.replicate_succ, List.flatten_cons, List.replicate_succ, List.map_cons]; simp
  rw [e] at h
  refine dp_refs h (by simp) fun z hz => ?_
  rw [List.eq_of_mem_replicate hz]; exact hr
end

theorem z_rng3 {σ : L2.St} {H : Hp} {ta : TA} {R : It → Hp → Prop} (q : ta σ H fun vs H1 => ∃ (i j c : Int) (n : Nat), vs = [.int i, .int j, .int c] ∧ RgC i j c n ∧ R (Itc i c n) H1) : iRng3 ta σ H R := q
theorem z_rng3e {a b c : Int} {n : Nat} {P : Int → Int → Nat → Prop} (h : RgC a b c n) (q : P a c n) : ∃ (i j c' : Int) (n : Nat), [V.int a, V.int b, V.int c] = [.int i, .int j, .int c'] ∧ RgC i j c' n ∧ P i c' n := ⟨a, b, c, n, rfl, h, q⟩
theorem fg_rangeC {σ : L2.St} {H : Hp} {D : Ends} {g : TG} {tb : TS} {lo c : Int} {n : Nat} (Pv : Nat → L2.St → Hp → Prop) (h0 : Pv 0 σ H) (hs : ∀ i σ H, i < n → Pv i σ H → g (.int (lo + (i : Nat) * c)) σ H fun σ2 H2 => tb { D with nx := Pv (i + 1), ct := Pv (i + 1), bk := D.nx } σ2 H2) (hd : ∀ σ H, Pv n σ H → D.nx σ H) : ForGo (Itc lo c n) g tb D σ H := for_rangeC Pv h0 hs hd
theorem z_inStr {H : Hp} {Q : VK} {x y : Str} (q : Q (.bl (!(Builtin.Str.occurrences y x 0 y.length 1).isEmpty)) H) : rInStr (.str x) (.str y) H Q := ⟨x, y, rfl, rfl, q⟩
/-! ### the rules with the written part named -/
section
variable {X : Cx} {K : PySem.W.Frag}
theorem ix_listK (h : X.K = K) : IxR X (rIxL K) := h ▸ ix_list
theorem ix_tupK (h : X.K = K) : IxR X (rIxT K) := h ▸ ix_tup
theorem call_lnK (h : X.K = K) : CallR X (.builtin "len") (rLn K) := h ▸ call_ln
theorem call_loK (h : X.K = K) : CallR X (.type "list") (rLstOf K) := h ▸ call_lo
theorem cr_allK (h : X.K = K) (hc : X.calm = true) : CallR X (.builtin "all") (rAll K) := h ▸ cr_all hc
theorem cr_anyK (h : X.K = K) (hc : X.calm = true) : CallR X (.builtin "any") (rAny K) := h ▸ cr_any hc
theorem cr_minK (h : X.K = K) (hc : X.calm = true) : CallR X (.builtin "min") (rMin K) := h ▸ cr_min hc
theorem cr_maxK (h : X.K = K) (hc : X.calm = true) : CallR X (.builtin "max") (rMax K) := h ▸ cr_max hc
theorem op_eqDK (h : X.K = K) (hu : X.A.units + 64 < cLine) : OpR X (compareOp .Eq) (rEqD K) := h ▸ op_eqD hu
theorem op_neDK (h : X.K = K) (hu : X.A.units + 64 < cLine) : OpR X (compareOp .NotEq) (rNeD K) := h ▸ op_neD hu
theorem op_inK (h : X.K = K) : OpR X (compareOp .In) (rIn K false) := h ▸ op_in_seq
theorem op_notInK (h : X.K = K) : OpR X (compareOp .NotIn) (rIn K true) := h ▸ op_notIn_seq
theorem sl_listK (h : X.K = K) : SlR X (rSlL K) := h ▸ sl_list
theorem call_isXK (h : X.K = K) : CallR X (.builtin "isinstance") (rIsX K) := h ▸ call_isX
theorem mt_countK (h : X.K = K) : MtR X "list.count" (rCount K) := h ▸ mt_countF
theorem mt_indexK (h : X.K = K) : MtR X "list.index" (rIndex K) := h ▸ mt_index
theorem pt_trK {a : Expr} {ta : TE} (h : X.K = K) (ha : PE X a ta) (he : ∀ whole, isTrue a X.env whole = (do let v ← whole; standAt a.pos; holding [v] (truthy v)) := by intro _; rfl) : PT X a (tTr K ta) := h ▸ pt_tr ha he
theorem pi_listK {tg l : Expr} {tl : TE} (h : X.K = K) (hl : PE X l tl) : PI X tg l (iList K tl) := h ▸ pi_list hl
theorem pi_tupK {tg l : Expr} {tl : TE} (h : X.K = K) (hl : PE X l tl) : PI X tg l (iTup K tl) := h ▸ pi_tup hl
variable {o e : Expr} {es : List Expr} {to : TE} {t : TA} {name : Str} {apos cpos : Pos} {T id : String} {r : V → List V → Hp → VK → Prop}
theorem pe_bm0K (h : X.K = K) (pa : PlainAttrs T) (slot : Slot T name id) (hty : typeOf (.builtin id) = pure (.type "method_descriptor")) (hm : MtR X id r) (ho : PE X o to) (hbase : attributeBase o name X.env (eval o X.env) = eval o X.env := by rfl) (hline : (apos.endLine == cpos.line) = true := by rfl) : PE X (.Call (.Attribute o name apos) [] [] cpos) (tBM0 K T r to) := h ▸ pe_bm0 pa slot hty hm ho hbase hline
theorem pe_bmK (h : X.K = K) (pa : PlainAttrs T) (slot : Slot T name id) (hty : typeOf (.builtin id) = pure (.type "method_descriptor")) (hm : MtR X id r) (ho : PE X o to) (ha : PA X (e :: es) t) (hbase : attributeBase o name X.env (eval o X.env) = eval o X.env := by rfl)
    (hfew : ((backTo cpos (starEach (e :: es) X.env)).all (fun x => !x.1) && (backToKw cpos (keywordEach [] X.env)).all (fun x => x.1.isSome) && decide ((e :: es).length + ([] : List Keyword).length + (if ([] : List Keyword).isEmpty then 0 else 1) < 30)) = true := by rfl)
    (hline : (apos.endLine == cpos.line) = true := by rfl) (hs : starEach (e :: es) X.env = (false, eval e X.env) :: starEach es X.env := by rfl) (hplain : (backTo cpos (starEach es X.env)).any (·.1) = false := by rfl) : PE X (.Call (.Attribute o name apos) (e :: es) [] cpos) (tBM K T r to t) := h ▸ pe_bm pa slot hty hm ho ha hbase hfew hline hs hplain
theorem pg_tupK {es : List Expr} {k : Nat} {t : TGs} {n : Nat} {pos : Pos} (hK : X.K = K) (hc : X.calm = true) (h : PGs X es t) (hn : (assignEach es X.env).length = n := by rfl) (hst : (assignEach es X.env).findIdx? (·.1) = none := by rfl) : PG X (.Tuple es k pos) (gTup K n t) := hK ▸ pg_tup hc h hn hst
end
/-! ### a comprehension over a range, tests and items that leave the heap as it is -/
theorem range_filter_succ {n : Nat} {f : Nat → Bool} : (List.range (n + 1)).filter f = (List.range n).filter f ++ (if f n = true then [n] else []) := by
  rw [List.range_succ, List.filter_append, List.filter_cons, List.filter_nil]
theorem lc_rngP {σ : L2.St} {H1 : Hp} {te : TE} {tt : TT} {vs : List Nat} {D : Addr} {Qd : Hp → Prop} {lo : Int} {n j : Nat} (f : Nat → Bool) (v : Nat → V) (hn : n < 1000000) (hw : ∀ v, wipe ((wipe σ vs).set j (some v)) vs = wipe σ vs) (hD : H1 D = none)
    (ht : ∀ (i : Nat) (H2 : Hp) (Q2 : Bool → Hp → Prop), i < n → Same H1 H2 → Q2 (f i) H2 → tt ((wipe σ vs).set j (some (.int (lo + (i : Nat))))) H2 Q2)
    (he : ∀ (i : Nat) (H2 : Hp) (Q2 : VK), i < n → f i = true → Same H1 H2 → Q2 (v i) H2 → te ((wipe σ vs).set j (some (.int (lo + (i : Nat))))) H2 Q2)
    (hd : Qd (upd H1 D (.lst (((List.range n).filter f).map v)))) : LcGo (Itr lo n) (gName j) tt te vs σ D H1 Qd := by
  refine lg_range (fun i H2 => H2 = upd H1 D (.lst (((List.range i).filter f).map v))) rfl ?_ (fun H e => by rw [e]; exact hd)
  rintro i H2 hi rfl
  have sm : Same H1 (upd H1 D (.lst (((List.range i).filter f).map v))) := Same.own (Same.refl _) hD
  refine ⟨hw _, ht i _ _ hi sm ?_⟩
  refine ite_b (fun h => ?_) (fun h => ?_)
  · refine he i _ _ hi h sm ⟨_, upd_same, ?_, ?_⟩
    · rw [List.length_map, sizeLine_eq]
      have := List.length_filter_le f (List.range i)
      rw [List.length_range] at this
      omega
    · rw [upd_upd, range_filter_succ, if_pos h, List.map_append]; rfl
  · rw [range_filter_succ, if_neg (by rw [h]; exact Bool.false_ne_true), List.append_nil]
/-! ### histories -/
def histF (m : Int) (lk ls : Addr) (s : Int) : List (Str × V) := [("most", .int m), ("kept", .ref lk), ("shown", .ref ls), ("spot", .int s)]
structure HistAt (K : PySem.W.Frag) (H : Hp) (p lk ls : Addr) (m : Int) (ks ss : List Str) (s : Int) : Prop where
  ob : ∃ dx, H p = some (.ins (He.ga K "History") dx (histF m lk ls s))
  kl : H lk = some (.lst (ks.map V.str))
  sl : H ls = some (.lst (ss.map V.str))
  ne : lk ≠ ls
section
variable {K : PySem.W.Frag} {H H' : Hp} {p lk ls : Addr} {m : Int} {ks ss : List Str} {s : Int}
theorem HistAt.same (R : HistAt K H p lk ls m ks ss s) (h : Same H H') : HistAt K H' p lk ls m ks ss s :=
  ⟨let ⟨dx, e⟩ := R.ob; ⟨dx, h _ _ e⟩, h _ _ R.kl, h _ _ R.sl, R.ne⟩
theorem HistAt.fr {S : List Addr} (R : HistAt K H p lk ls m ks ss s) (h : Fr S H H') (h1 : p ∉ S) (h2 : lk ∉ S) (h3 : ls ∉ S) : HistAt K H' p lk ls m ks ss s :=
  ⟨let ⟨dx, e⟩ := R.ob; ⟨dx, h _ _ e h1⟩, h _ _ R.kl h2, h _ _ R.sl h3, R.ne⟩
end
/-- a line is added: not an empty one, none like the last; the oldest goes -/
def addH (m : Int) (x : Str) (ks : List Str) : List Str := if x = "" ∨ ks.getLast? = some x then ks else (ks ++ [x]).drop ((ks ++ [x]).length - m.toNat)
/-- whether a part is in a text -/
def inS (part x : Str) : Bool := !(Builtin.Str.occurrences x part 0 x.length 1).isEmpty
def hitH (ks : List Str) (part : Str) (spot : Int) (j : Nat) : Bool := decide ((j : Int) ≤ spot) && inS part (ks.getD j "")
/-- the last line from a place back that has a part -/
def findH (ks : List Str) (part : Str) (spot : Int) : Option Nat := ((List.range ks.length).filter (hitH ks part spot)).getLast?
def optV : Option Nat → V
  | none => .non
  | some k => .int (k : Nat)
theorem last_filter {n k : Nat} {f : Nat → Bool} (hk : k < n) (h1 : f k = true) (h2 : ∀ j, k < j → j < n → f j = false) : ((List.range n).filter f).getLast? = some k := by
  induction n with
  | zero => omega
  | succ n ih =>
    rw [List.range_succ, List.filter_append]
    by_cases e : k = n
    · subst e
      rw [List.filter_cons, if_pos h1]
      simp
    · have hn : f n = false := h2 n (by omega) (by omega)
      rw [List.filter_cons, if_neg (by rw [hn]; simp), List.filter_nil, List.append_nil]
      exact ih (by omega) fun j a b => h2 j a (by omega)
theorem none_filter {n : Nat} {f : Nat → Bool} (h2 : ∀ j, j < n → f j = false) : ((List.range n).filter f).getLast? = none := by
  have : (List.range n).filter f = [] := List.filter_eq_nil_iff.mpr fun j hj => by rw [h2 j (List.mem_range.mp hj)]; simp
  rw [this]; rfl
theorem eqv_strs (xs ys : List Str) : PyData.eqv (strD xs) (strD ys) = decide (xs = ys) := by
  unfold strD
  simp only [PyData.eqv]
  induction xs generalizing ys with
  | nil => cases ys with
    | nil => simp [PyData.eqvAll]
    | cons y r => simp [PyData.eqvAll]
  | cons x xs ih => cases ys with
    | nil => simp [PyData.eqvAll]
    | cons y r =>
      simp only [List.map_cons, PyData.eqvAll, PyData.eqv, ih, List.cons.injEq]
      by_cases e1 : x = y
      · subst e1; simp
      · have : (x == y) = false := beq_eq_false_iff_ne.mpr e1
        rw [this, Bool.false_and]; simp [e1]
theorem last_slice (ks : List Str) : cutL ks (some (-1)) none = match ks.getLast? with | some x => [x] | none => [] := by
  rw [show (-1 : Int) = -(1 : Int) from rfl, cutL_lastN ks (by decide)]
  rcases List.eq_nil_or_concat ks with rfl | ⟨l, x, rfl⟩
  · rfl
  · simp

/-! ### targets that are attributes -/
def gAtt (C : Addr) (to : TE) (f : Str) : TG := fun v σ H Q => to σ H fun x H1 => ∃ a dx fs, x = .ref a ∧ H1 a = some (.ins C dx fs) ∧ fs.length < 1000 ∧ Q σ (upd H1 a (.ins C dx (putF f v fs)))
theorem pg_att {X : Cx} {C : Addr} {o : Expr} {to : TE} {f : Str} {pos : Pos} (c : Cls X.K C) (n : NoAttr X.K C f) (ho : PE X o to) : PG X (.Attribute o f pos) (gAtt C to f) := by
  refine ⟨fun pins s σ H v u Q I r h => ?_⟩
  rw [arm_assign_Attribute]
  refine wpAny_bind (wpAny_holding (thn (ho.run pins s σ H _ I h) ?_))
  rintro ov s1 ⟨x, H1, I1, rx, a, dx, fs, rfl, ea, l, q⟩
  obtain rfl : ov = Value.ref a := rx
  exact wpAny_bind (wpAny_standAt (wpAny_bind (wpAny_holding (setattr_ok I1 ea c n l r fun s3 I3 => wpAny_release ⟨σ, _, I3, q⟩))))
section
variable {σ : L2.St} {H : Hp} {K : PySem.W.Frag} {a C dx : Addr} {f : Str} {v : V} {vs xs : List V} {c : L2.St → Hp → Prop} {to : TE} {t : TG} {u : TGs} {fs : List (Str × V)}
theorem z_gatt (q : to σ H fun x H1 => ∃ a dx fs, x = .ref a ∧ H1 a = some (.ins C dx fs) ∧ fs.length < 1000 ∧ c σ (upd H1 a (.ins C dx (putF f v fs)))) : gAtt C to f v σ H c := q
theorem z_gnil (q : c σ H) : gNil [] σ H c := ⟨rfl, q⟩
theorem z_gcons (q : t v σ H fun σ' H' => u vs σ' H' c) : gCons t u (v :: vs) σ H c := ⟨v, vs, rfl, q⟩
theorem z_gtup {n : Nat} (h : SqT K H a xs) (hn : xs.length = n) (q : u xs σ H c) : gTup K n u (.ref a) σ H c := ⟨a, xs, rfl, h, hn, q⟩
theorem z_par {D : Ends} {i j : Nat} {ta : TA} (q : ta σ H fun vs H1 => ∃ v w, vs = [v, w] ∧ D.nx ((σ.set i (some v)).set j (some w)) H1) : tPar i j ta D σ H := q
theorem z_par1 {x y : V} {P : V → V → Prop} (q : P x y) : ∃ v w, [x, y] = [v, w] ∧ P v w := ⟨x, y, rfl, q⟩
theorem z_truS {QB : Bool → Prop} {s1 : Str} (h : s1.length ≤ sizeLine) (q : QB ((s1.length : Int) != 0)) : ∃ k, TruV K (.str s1) H k ∧ QB k := ⟨_, ⟨h, rfl⟩, q⟩
end
/-! ### lines -/
/-- text, caret and mark -/
structure Pic where
  txt : Str
  at_ : Int
  mrk : Int
structure LineS where
  now : Str
  caret : Int
  mark : Int
  before : List Pic
  later : List Pic
  run : Int
def PicAt (H : Hp) (r : Addr) (P : Pic) : Prop := H r = some (.tup [.str P.txt, .int P.at_, .int P.mrk])
/-- a list of pictures at l -/
def PicsAt (H : Hp) (l : Addr) (ps : List Pic) : Prop := ∃ rs : List Addr, H l = some (.lst (rs.map V.ref)) ∧ Paired (PicAt H) rs ps
def lineF (now : Str) (caret mark : Int) (lb ll : Addr) (run : Int) : List (Str × V) := [("now", .str now), ("caret", .int caret), ("mark", .int mark), ("before", .ref lb), ("later", .ref ll), ("run", .int run)]
structure LineAt (K : PySem.W.Frag) (H : Hp) (p lb ll : Addr) (L : LineS) : Prop where
  ob : ∃ dx, H p = some (.ins (He.ga K "Line") dx (lineF L.now L.caret L.mark lb ll L.run))
  bs : PicsAt H lb L.before
  ls : PicsAt H ll L.later
  ne : lb ≠ ll
/-- no tuple stands at these -/
def Nt (H : Hp) (S : List Addr) : Prop := ∀ b ∈ S, ∀ xs, H b ≠ some (.tup xs)
theorem nt_nil {H : Hp} : Nt H [] := fun _ h => nomatch h
theorem Nt.cons {H : Hp} {S : List Addr} {b : Addr} (h : ∀ xs, H b ≠ some (.tup xs)) (t : Nt H S) : Nt H (b :: S) := fun c hc => by
  rcases List.mem_cons.mp hc with rfl | z
  · exact h
  · exact t c z
theorem nt_lst {H : Hp} {b : Addr} {ys : List V} (h : H b = some (.lst ys)) : ∀ xs, H b ≠ some (.tup xs) := fun xs e => by rw [h] at e; cases e
theorem nt_ins {H : Hp} {b C dx : Addr} {fs : List (Str × V)} (h : H b = some (.ins C dx fs)) : ∀ xs, H b ≠ some (.tup xs) := fun xs e => by rw [h] at e; cases e
theorem nt_dK {H : Hp} {b : Addr} {fs : List (Key × V)} (h : H b = some (.dK fs)) : ∀ xs, H b ≠ some (.tup xs) := fun xs e => by rw [h] at e; cases e
theorem nt_non {H : Hp} {b : Addr} (h : H b = none) : ∀ xs, H b ≠ some (.tup xs) := fun xs e => by rw [h] at e; cases e
section
variable {K : PySem.W.Frag} {H H' : Hp} {p lb ll l : Addr} {L : LineS} {ps : List Pic} {S : List Addr} {r : Addr} {P : Pic}
theorem PicAt.fr (h : PicAt H r P) (f : Fr S H H') (n : Nt H S) : PicAt H' r P := f _ _ h fun z => n _ z _ h
theorem PicAt.same (h : PicAt H r P) (f : Same H H') : PicAt H' r P := f _ _ h
theorem pics_fr {rs : List Addr} (h : Paired (PicAt H) rs ps) (f : Fr S H H') (n : Nt H S) : Paired (PicAt H') rs ps := Paired.mapP h fun _ _ z => z.fr f n
theorem pics_same {rs : List Addr} (h : Paired (PicAt H) rs ps) (f : Same H H') : Paired (PicAt H') rs ps := Paired.mapP h fun _ _ z => z.same f
theorem PicsAt.fr (h : PicsAt H l ps) (f : Fr S H H') (n : Nt H S) (hl : l ∉ S) : PicsAt H' l ps := let ⟨rs, a, b⟩ := h; ⟨rs, f _ _ a hl, pics_fr b f n⟩
theorem PicsAt.same (h : PicsAt H l ps) (f : Same H H') : PicsAt H' l ps := let ⟨rs, a, b⟩ := h; ⟨rs, f _ _ a, pics_same b f⟩
theorem PicsAt.nt (h : PicsAt H l ps) : ∀ xs, H l ≠ some (.tup xs) := let ⟨_, a, _⟩ := h; nt_lst a
theorem PicsAt.mu (h : PicsAt H l ps) : Mu H l := let ⟨_, a, _⟩ := h; Mu.lst a
theorem LineAt.same (R : LineAt K H p lb ll L) (h : Same H H') : LineAt K H' p lb ll L := ⟨let ⟨dx, e⟩ := R.ob; ⟨dx, h _ _ e⟩, R.bs.same h, R.ls.same h, R.ne⟩
theorem LineAt.fr (R : LineAt K H p lb ll L) (f : Fr S H H') (n : Nt H S) (h1 : p ∉ S) (h2 : lb ∉ S) (h3 : ll ∉ S) : LineAt K H' p lb ll L := ⟨let ⟨dx, e⟩ := R.ob; ⟨dx, f _ _ e h1⟩, R.bs.fr f n h2, R.ls.fr f n h3, R.ne⟩
theorem LineAt.nt (R : LineAt K H p lb ll L) : Nt H [p, lb, ll] := let ⟨_, e⟩ := R.ob; .cons (nt_ins e) (.cons R.bs.nt (.cons R.ls.nt nt_nil))
theorem LineAt.nes (R : LineAt K H p lb ll L) : p ≠ lb ∧ p ≠ ll := by
  obtain ⟨⟨dx, ho⟩, ⟨_, hb, _⟩, ⟨_, hl, _⟩, _⟩ := R
  exact ⟨ne_of ho hb (by intro z; cases z), ne_of ho hl (by intro z; cases z)⟩
end
theorem paired_snoc {α β : Type} {F : α → β → Prop} {xs : List α} {ys : List β} {x : α} {y : β} (h : Paired F xs ys) (q : F x y) : Paired F (xs ++ [x]) (ys ++ [y]) := by
  induction h with
  | nil => exact .cons q .nil
  | cons a _ ih => exact .cons a ih
theorem paired_len {α β : Type} {F : α → β → Prop} {xs : List α} {ys : List β} (h : Paired F xs ys) : xs.length = ys.length := by
  induction h with
  | nil => rfl
  | cons _ _ ih => rw [List.length_cons, List.length_cons, ih]
theorem paired_last {α β : Type} {F : α → β → Prop} {xs : List α} {ys : List β} {y : β} (h : Paired F xs (ys ++ [y])) : ∃ xs' x, xs = xs' ++ [x] ∧ Paired F xs' ys ∧ F x y := by
  induction ys generalizing xs with
  | nil =>
    cases h with
    | cons a t =>
      cases t
      exact ⟨[], _, rfl, .nil, a⟩
  | cons z zs ih =>
    cases h with
    | cons a t =>
      obtain ⟨xs', x, rfl, h1, h2⟩ := ih t
      exact ⟨_ :: xs', x, rfl, .cons a h1, h2⟩
theorem pics_push {H : Hp} {l r : Addr} {ps : List Pic} {P : Pic} (h : PicsAt H l ps) (hr : H r = none) : ∀ rs : List Addr, H l = some (.lst (rs.map V.ref)) → PicsAt (upd (upd H r (.tup [.str P.txt, .int P.at_, .int P.mrk])) l (.lst (rs.map V.ref ++ [.ref r]))) l (ps ++ [P]) := fun rs hl => by
  obtain ⟨rs', a, b⟩ := h
  have e : rs.map V.ref = rs'.map V.ref := by rw [hl] at a; injection a with a; injection a
  rw [e]
  have s1 : Same H (upd H r (.tup [.str P.txt, .int P.at_, .int P.mrk])) := Same.new (Same.refl _) hr
  have nrl : r ≠ l := (ne_of_none hl hr).symm
  have f : Fr [l] (upd H r (.tup [.str P.txt, .int P.at_, .int P.mrk])) (upd (upd H r (.tup [.str P.txt, .int P.at_, .int P.mrk])) l (.lst (rs'.map V.ref ++ [.ref r]))) := Fr.upd Fr.refl (by simp)
  refine ⟨rs' ++ [r], by rw [upd_same, List.map_append]; rfl, paired_snoc (pics_fr (pics_same b s1) f (.cons (nt_lst (s1 _ _ hl)) nt_nil)) ?_⟩
  show upd _ l _ r = _
  rw [upd_ne nrl, upd_same]
/-! the mirror of lines -/
namespace LineS
def pic (L : LineS) : Pic := ⟨L.now, L.caret, L.mark⟩
def len (L : LineS) : Int := (L.now.length : Int)
def fresh (x : Str) : LineS := ⟨x, x.length, 0, [], [], 0⟩
def go (L : LineS) (a : Int) : LineS := { L with caret := a, run := 0 }
def putMark (L : LineS) (a : Int) : LineS := { L with mark := a, run := 0 }
def rest (L : LineS) : LineS := { L with run := 0 }
def show_ (L : LineS) (P : Pic) : LineS := { L with now := P.txt, caret := P.at_, mark := P.mrk }
def newMark (m f l : Int) (n : Nat) : Int := if l ≤ m ∧ f < m then m - (l - f) + n else if f < m then f + n else m
def spliced (x : Str) (f l : Int) (new : Str) : Str := S ((tl x).take f.toNat ++ tl new ++ (tl x).drop l.toNat)
def replace (L : LineS) (f l : Int) (new : Str) (c : Int) : LineS := { L with now := spliced L.now f l new, caret := c, mark := newMark L.mark f l new.length }
def change (L : LineS) (f l : Int) (new : Str) (c : Int) : LineS := { L with before := L.before ++ [L.pic], later := [], run := 0 }.replace f l new c
def write (L : LineS) (x : Str) : LineS :=
  if L.run = 0 ∨ L.run = 20 then { L with before := L.before ++ [L.pic], later := [], run := 1 }.replace L.caret L.caret x (L.caret + x.length)
  else { L with later := [], run := L.run + 1 }.replace L.caret L.caret x (L.caret + x.length)
def undo (L : LineS) : Bool × LineS := match L.before.getLast? with
  | none => (false, { L with run := 0 })
  | some P => (true, { L with now := P.txt, caret := P.at_, mark := P.mrk, before := L.before.dropLast, later := L.later ++ [L.pic], run := 0 })
def redo (L : LineS) : Bool × LineS := match L.later.getLast? with
  | none => (false, { L with run := 0 })
  | some P => (true, { L with now := P.txt, caret := P.at_, mark := P.mrk, later := L.later.dropLast, before := L.before ++ [L.pic], run := 0 })
def place (x : Str) (a : Int) : Prop := 0 ≤ a ∧ a ≤ x.length
instance (x : Str) (a : Int) : Decidable (place x a) := inferInstanceAs (Decidable (_ ∧ _))
end LineS

/-! ### dicts of texts -/
def DG (kvs : List (Key × V)) (x : Str) (v : V) : Prop := valV kvs (.inr x) = some v
/-- the same but at these keys -/
def Ex (S : List Str) (kvs kvs' : List (Key × V)) : Prop := ∀ x, x ∉ S → valV kvs' (.inr x) = valV kvs (.inr x)
theorem valV_put_eq {kvs : List (Key × V)} {k : Key} {v : V} : valV (putK kvs k v) k = some v := by
  unfold putK
  split
  · rename_i h
    induction kvs with
    | nil => cases h
    | cons p r ih =>
      rw [List.map_cons]
      by_cases e : p.1 = k
      · rw [if_pos e]; exact valV_pos e
      · rw [if_neg e, valV_neg e]
        refine ih ?_
        simpa [e] using h
  · rename_i h
    induction kvs with
    | nil => exact valV_pos rfl
    | cons p r ih =>
      have e : ¬ p.1 = k := fun e => h (by simp [e])
      rw [List.cons_append, valV_neg e]
      exact ih fun z => h (by simp [z])
theorem valV_put_ne {kvs : List (Key × V)} {k k' : Key} {v : V} (n : k' ≠ k) : valV (putK kvs k v) k' = valV kvs k' := by
  unfold putK
  split
  · rename_i hh; clear hh
    induction kvs with
    | nil => rfl
    | cons p r ih =>
      rw [List.map_cons]
      by_cases e : p.1 = k
      · rw [if_pos e, valV_neg (by show ¬ p.1 = k'; rw [e]; exact fun z => n z.symm), valV_neg (by rw [e]; exact fun z => n z.symm), ih]
      · rw [if_neg e]
        by_cases e' : p.1 = k'
        · rw [valV_pos e', valV_pos e']
        · rw [valV_neg e', valV_neg e', ih]
  · rename_i hh; clear hh
    induction kvs with
    | nil => rw [List.nil_append, valV_neg (fun z => n z.symm)]
    | cons p r ih =>
      rw [List.cons_append]
      by_cases e' : p.1 = k'
      · rw [valV_pos e', valV_pos e']
      · rw [valV_neg e', valV_neg e', ih]
theorem dg_same {kvs : List (Key × V)} {x : Str} {v : V} : DG (putK kvs (.inr x) v) x v := valV_put_eq
theorem dg_ne {kvs : List (Key × V)} {x y : Str} {v w : V} (n : (y == x) = false) (h : DG kvs y w) : DG (putK kvs (.inr x) v) y w := by
  unfold DG
  rw [valV_put_ne]
  · exact h
  · intro z; injection z with z; rw [z] at n; simp at n
theorem ex_refl {S : List Str} {kvs : List (Key × V)} : Ex S kvs kvs := fun _ _ => rfl
theorem Ex.trans {S : List Str} {a b c : List (Key × V)} (h : Ex S a b) (g : Ex S b c) : Ex S a c := fun x n => (g x n).trans (h x n)
theorem Ex.mono {S T : List Str} {a b : List (Key × V)} (h : Ex S a b) (s : ∀ x ∈ S, x ∈ T) : Ex T a b := fun x n => h x fun z => n (s x z)
theorem Ex.put {S : List Str} {a b : List (Key × V)} {x : Str} {v : V} (h : Ex S a b) (m : x ∈ S) : Ex S a (putK b (.inr x) v) := fun y n => by
  rw [valV_put_ne (fun z => n (by injection z with z; rw [z]; exact m))]
  exact h y n
theorem Ex.dg {S : List Str} {a b : List (Key × V)} {x : Str} {v : V} (h : Ex S a b) (g : DG a x v) (n : x ∉ S) : DG b x v := (h x n).trans g
theorem put_len {kvs : List (Key × V)} {x : Str} {v w : V} (h : DG kvs x w) : (putK kvs (.inr x) v).length = kvs.length := by
  unfold putK
  rw [if_pos]
  · exact List.length_map _
  · unfold DG valV at h
    obtain ⟨p, hp, _⟩ := Option.map_eq_some_iff.mp h
    exact List.any_eq_true.mpr ⟨p, List.mem_of_find?_eq_some hp, by have := List.find?_some hp; exact this⟩
theorem dl_put {kvs : List (Key × V)} {k : Key} {v : V} {n : Nat} (h : kvs.length + 1 < n) : (putK kvs k v).length < n := Nat.lt_of_le_of_lt (length_putK kvs k v) h
theorem dl_put' {kvs : List (Key × V)} {k : Key} {v : V} {n m : Nat} (h : kvs.length + (m + 1) < n) : (putK kvs k v).length + m < n := by have := length_putK kvs k v; omega
section
variable {σ : L2.St} {H : Hp} {K : PySem.W.Frag} {Q : VK} {a : Addr} {x : Str} {v : V} {kvs : List (Key × V)} {td ty tv : TE} {D : Ends}
theorem z_dget (q : td σ H fun x H1 => ty σ H1 fun y H2 => ∃ a v, x = .ref a ∧ DGet H2 a y (some v) ∧ Q v H2) : tDGet td ty σ H Q := q
theorem z_dget1 {c : V → Prop} (h : H a = some (.dK kvs)) (l : DG kvs x v) (q : c v) : ∃ a' v', V.ref a = .ref a' ∧ DGet H a' (.str x) (some v') ∧ c v' := ⟨a, v, rfl, by
  have := DGet.k (k := .inr x) h
  rw [show valV kvs (.inr x) = some v from l] at this
  exact this, q⟩
theorem z_dput (q : tv σ H fun v H1 => td σ H1 fun x H2 => ty σ H2 fun y H3 => ∃ a H4, x = .ref a ∧ DPut H3 a y v H4 ∧ D.nx σ H4) : sDPut td ty tv D σ H := q
theorem z_dput1 {c : Hp → Prop} (h : H a = some (.dK kvs)) (l : kvs.length < sizeLine) (q : c (upd H a (.dK (putK kvs (.inr x) v)))) : ∃ a' H4, V.ref a = .ref a' ∧ DPut H a' (.str x) v H4 ∧ c H4 := ⟨a, _, rfl, DPut.k (k := .inr x) h l, q⟩
theorem z_disp {trs : List (TE × TE)} (q : ∀ p, H p = none → tPairs trs σ (upd H p (.dK [])) fun ps H2 => H2 p = some (.dK []) ∧ ∃ kvs : List (Key × V), ps = kvs.map (fun kv => (kV kv.1, kv.2)) ∧ kvs.length ≤ 15 ∧ Q (.ref p) (upd H2 p (.dK (mergeK [] kvs)))) : tDisp trs σ H Q := q
theorem z_pcons {tk tv : TE} {r : List (TE × TE)} {c : List (V × V) → Hp → Prop} (q : tk σ H fun x H1 => tv σ H1 fun y H2 => tPairs r σ H2 fun ps H3 => c ((x, y) :: ps) H3) : tPairs ((tk, tv) :: r) σ H c := q
theorem z_pnil {c : List (V × V) → Hp → Prop} (q : c [] H) : tPairs [] σ H c := q
end
/-! ### signs and texts of a line -/
/-- whether a sign may stand in a line, by its code -/
def okc (c : Nat) : Bool := decide (32 ≤ c) && (decide (c < 127) && !decide (c = 37))
theorem okc_lt {c : Nat} (h : okc c = true) : c < 128 := by
  unfold okc at h
  simp at h; omega
def isSign (s : Str) : Bool := match tl s with
  | [c] => okc c
  | _ => false
/-- a line's text: its signs may stand there -/
def okText (s : Str) : Bool := decide (s.length ≤ 400) && (tl s).all okc
theorem plain_ok {x : Str} (h : okText x = true) : plainS x = true := by
  unfold okText at h
  rw [Bool.and_eq_true] at h
  unfold plainS
  rw [List.all_eq_true]
  exact fun c hc => decide_eq_true (okc_lt (List.all_eq_true.mp h.2 c hc))
/-- what is refused of a change -/
def chk (L : LineS) (f l : Int) (new : Str) : Option Str :=
  if LineS.place L.now f then (if LineS.place L.now l then (if okText new then (if L.len - (l - f) + new.length > 400 then some "BadText" else none) else some "BadText") else some "BadPlace") else some "BadPlace"
theorem okText_app {x y : Str} (hx : okText x = true) (hy : okText y = true) (hl : x.length + y.length ≤ 400) : okText (x ++ y) = true := by
  unfold okText at *
  rw [Bool.and_eq_true] at *
  refine ⟨decide_eq_true (by rw [len_app]; exact hl), ?_⟩
  rw [tl_app, List.all_append, hx.2, hy.2]; rfl

/-! ### data, all of it plain -/
def Sh (n : Nat) (d : PyData) : Prop := d.canLay0 = true ∧ d.depth ≤ n
theorem lay_all : ∀ {ds : List PyData}, (∀ d ∈ ds, d.canLay0 = true) → PyData.canLayAll0 ds = true
  | [], _ => by simp only [PyData.canLayAll0]
  | d :: r, h => by simp only [PyData.canLayAll0, h d (by simp), lay_all (ds := r) fun x hx => h x (List.mem_cons_of_mem _ hx), Bool.and_self]
theorem dep_all {n : Nat} : ∀ {ds : List PyData}, (∀ d ∈ ds, d.depth ≤ n) → PyData.depthAll ds ≤ n
  | [], _ => by simp only [PyData.depthAll]; omega
  | d :: r, h => by
    have h1 := h d (by simp)
    have h2 := dep_all (ds := r) fun x hx => h x (List.mem_cons_of_mem _ hx)
    simp only [PyData.depthAll]; omega
theorem Sh.lst {n : Nat} {ds : List PyData} (h : ∀ d ∈ ds, Sh n d) : Sh (n + 1) (.list ds) := ⟨by simp only [PyData.canLay0]; exact lay_all fun d hd => (h d hd).1, by have := dep_all fun d hd => (h d hd).2; simp only [PyData.depth]; omega⟩
theorem Sh.tup {n : Nat} {ds : List PyData} (h : ∀ d ∈ ds, Sh n d) : Sh (n + 1) (.tuple ds) := ⟨by simp only [PyData.canLay0]; exact lay_all fun d hd => (h d hd).1, by have := dep_all fun d hd => (h d hd).2; simp only [PyData.depth]; omega⟩
theorem Sh.str {x : Str} (h : plainS x = true) : Sh 0 (.str x) := ⟨by simp only [PyData.canLay0]; exact strOk_plain h, by simp only [PyData.depth]; omega⟩
theorem Sh.int {i : Int} : Sh 0 (.int i) := ⟨by simp only [PyData.canLay0], by simp only [PyData.depth]; omega⟩
theorem Sh.bl {i : Bool} : Sh 0 (.bool i) := ⟨by simp only [PyData.canLay0], by simp only [PyData.depth]; omega⟩
theorem Sh.non : Sh 0 .none := ⟨by simp only [PyData.canLay0], by simp only [PyData.depth]; omega⟩
theorem Sh.mono {n m : Nat} {d : PyData} (h : Sh n d) (k : n ≤ m) : Sh m d := ⟨h.1, Nat.le_trans h.2 k⟩
theorem Sh.ok {n : Nat} {d : PyData} (h : Sh n d) (k : n ≤ 64 := by decide) : SeqAt.shaped d = true := by
  unfold SeqAt.shaped
  rw [h.1, Bool.true_and]
  exact decide_eq_true (Nat.le_trans h.2 k)
/-- all items of a list of data -/
def Shs (n : Nat) (ds : List PyData) : Prop := ∀ d ∈ ds, Sh n d
theorem shs_nil {n : Nat} : Shs n [] := fun _ h => nomatch h
theorem Shs.cons {n : Nat} {d : PyData} {ds : List PyData} (h : Sh n d) (t : Shs n ds) : Shs n (d :: ds) := fun x hx => by
  rcases List.mem_cons.mp hx with rfl | z
  · exact h
  · exact t x z
theorem eqv_int {i j : Int} : PyData.eqv (.int i) (.int j) = decide (i = j) := by
  simp only [PyData.eqv]; by_cases h : i = j <;> simp [h]
theorem eqv_str {i j : Str} : PyData.eqv (.str i) (.str j) = decide (i = j) := by
  simp only [PyData.eqv]; by_cases h : i = j <;> simp [h]
theorem eqv_lst {xs ys : List PyData} : PyData.eqv (.list xs) (.list ys) = PyData.eqvAll xs ys := by simp only [PyData.eqv]
theorem eqv_tup {xs ys : List PyData} : PyData.eqv (.tuple xs) (.tuple ys) = PyData.eqvAll xs ys := by simp only [PyData.eqv]
theorem eqvAll_nil {xs : List PyData} : PyData.eqvAll xs [] = xs.isEmpty := by cases xs <;> simp [PyData.eqvAll]
/-! pictures as data -/
def picD (P : Pic) : PyData := .tuple [.str P.txt, .int P.at_, .int P.mrk]
def picsD (ps : List Pic) : PyData := .list (ps.map picD)
section
variable {K : PySem.W.Frag} {H : Hp} {r l : Addr} {P : Pic} {ps : List Pic}
theorem dp_pic (h : PicAt H r P) : Dp K H (.ref r) (picD P) := .tup (SqT.of h) (.cons (.str _) (.cons (.int _) (.cons (.int _) .nil)))
theorem dpAll_pics {rs : List Addr} (h : Paired (PicAt H) rs ps) : DpAll K H (rs.map V.ref) (ps.map picD) := by
  induction h with
  | nil => exact .nil
  | cons a _ ih => exact .cons (dp_pic a) ih
theorem dp_pics (h : PicsAt H l ps) : Dp K H (.ref l) (picsD ps) := let ⟨_, a, b⟩ := h; .lst (SqL.of a) (dpAll_pics b)
theorem sh_pic (h : plainS P.txt = true) : Sh 1 (picD P) := .tup (Shs.cons (.str h) (.cons .int (.cons .int shs_nil)))
theorem sh_pics (h : ∀ P ∈ ps, plainS P.txt = true) : Sh 2 (picsD ps) := .lst fun d hd => by
  obtain ⟨P, hP, rfl⟩ := List.mem_map.mp hd
  exact sh_pic (h P hP)
theorem eqv_pics_nil : PyData.eqv (picsD ps) (.list []) = ps.isEmpty := by
  unfold picsD
  rw [eqv_lst, eqvAll_nil]
  cases ps <;> rfl
end
/-- a picture that may be -/
def Pic.Ok (m : Nat) (P : Pic) : Prop := okText P.txt = true ∧ P.txt.length ≤ m ∧ LineS.place P.txt P.at_ ∧ LineS.place P.txt P.mrk
structure LineS.Ok (L : LineS) (m : Nat) : Prop where
  pic : L.pic.Ok m
  bs : ∀ P ∈ L.before, P.Ok m
  ls : ∀ P ∈ L.later, P.Ok m
namespace LineS
variable {L : LineS} {m : Nat}
theorem Ok.len (h : L.Ok m) : L.now.length ≤ m := h.pic.2.1
theorem Ok.text (h : L.Ok m) : okText L.now = true := h.pic.1
theorem Ok.l400 (h : L.Ok m) : L.now.length ≤ 400 := by
  have := h.pic.1
  unfold okText at this
  exact of_decide_eq_true (Bool.and_eq_true_iff.mp this).1
theorem Ok.caret (h : L.Ok m) : place L.now L.caret := h.pic.2.2.1
theorem Ok.mark (h : L.Ok m) : place L.now L.mark := h.pic.2.2.2
theorem Pic.Ok.mono {P : Pic} {m m' : Nat} (h : P.Ok m) (k : m ≤ m') : P.Ok m' := ⟨h.1, Nat.le_trans h.2.1 k, h.2.2⟩
theorem Ok.mono {m' : Nat} (h : L.Ok m) (k : m ≤ m') : L.Ok m' := ⟨Pic.Ok.mono h.pic k, fun P hP => Pic.Ok.mono (h.bs P hP) k, fun P hP => Pic.Ok.mono (h.ls P hP) k⟩
theorem ok_fresh {x : Str} (h : okText x = true) (k : x.length ≤ m) : (fresh x).Ok m := ⟨⟨h, k, ⟨Int.natCast_nonneg _, Int.le_refl _⟩, ⟨Int.le_refl _, Int.natCast_nonneg _⟩⟩, (fun _ h => nomatch h), (fun _ h => nomatch h)⟩
theorem Ok.go (h : L.Ok m) {a : Int} (k : place L.now a) : (L.go a).Ok m := ⟨⟨h.pic.1, h.pic.2.1, k, h.pic.2.2.2⟩, h.bs, h.ls⟩
theorem Ok.putMark (h : L.Ok m) {a : Int} (k : place L.now a) : (L.putMark a).Ok m := ⟨⟨h.pic.1, h.pic.2.1, h.pic.2.2.1, k⟩, h.bs, h.ls⟩
theorem Ok.rest (h : L.Ok m) : L.rest.Ok m := ⟨h.pic, h.bs, h.ls⟩
theorem Ok.show_ (h : L.Ok m) {P : Pic} (k : P.Ok m) : (L.show_ P).Ok m := ⟨k, h.bs, h.ls⟩
theorem len_spliced {x new : Str} {f l : Int} (h0 : 0 ≤ f) (h1 : f ≤ l) (h2 : l ≤ x.length) : ((spliced x f l new).length : Int) = x.length - (l - f) + new.length := by
  unfold spliced
  rw [len_S]
  have := len_tl x
  have := len_tl new
  simp only [List.length_append, List.length_take, List.length_drop]
  omega
theorem ok_spliced {x new : Str} {f l : Int} (h : okText x = true) (hn : okText new = true) (hl : (spliced x f l new).length ≤ 400) : okText (spliced x f l new) = true := by
  unfold okText at *
  rw [Bool.and_eq_true] at *
  refine ⟨decide_eq_true hl, ?_⟩
  unfold spliced
  rw [tl_S, List.all_append, List.all_append, hn.2, Bool.and_true, Bool.and_eq_true]
  refine ⟨List.all_eq_true.mpr fun c hc => List.all_eq_true.mp h.2 c (List.mem_of_mem_take hc), List.all_eq_true.mpr fun c hc => List.all_eq_true.mp h.2 c (List.mem_of_mem_drop hc)⟩
theorem place_newMark {x new : Str} {m f l : Int} (h : place x m) (h0 : 0 ≤ f) (h1 : f ≤ l) (h2 : l ≤ x.length) : place (spliced x f l new) (newMark m f l new.length) := by
  unfold place at *
  rw [len_spliced h0 h1 h2]
  unfold newMark
  split
  · omega
  · split <;> omega
/-- a change within the line, the caret within what is left -/
theorem Ok.replace (h : L.Ok m) {f l c : Int} {new : Str} {m' : Nat} (h0 : 0 ≤ f) (h1 : f ≤ l) (h2 : l ≤ L.now.length) (hn : okText new = true) (hl : (L.now.length : Int) - (l - f) + new.length ≤ 400) (hm : (L.now.length : Int) - (l - f) + new.length ≤ m') (mm : m ≤ m') (c0 : 0 ≤ c) (c1 : c ≤ L.now.length - (l - f) + new.length) : (L.replace f l new c).Ok m' := by
  have e := len_spliced (new := new) h0 h1 h2
  exact ⟨⟨ok_spliced h.pic.1 hn (by omega), by show (spliced _ _ _ _).length ≤ m'; omega, ⟨c0, by show c ≤ (spliced _ _ _ _).length; omega⟩, place_newMark h.pic.2.2.2 h0 h1 h2⟩, fun P hP => Pic.Ok.mono (h.bs P hP) mm, fun P hP => Pic.Ok.mono (h.ls P hP) mm⟩
theorem Ok.push (h : L.Ok m) {r : Int} : ({ L with before := L.before ++ [L.pic], later := [], run := r } : LineS).Ok m := ⟨h.pic, fun P hP => by
  rcases List.mem_append.mp hP with z | z
  · exact h.bs P z
  · rw [List.mem_singleton.mp z]; exact h.pic, fun _ h => nomatch h⟩
theorem Ok.unlater (h : L.Ok m) {r : Int} : ({ L with later := [], run := r } : LineS).Ok m := ⟨h.pic, h.bs, fun _ h => nomatch h⟩
theorem Ok.change (h : L.Ok m) {f l c : Int} {new : Str} {m' : Nat} (h0 : 0 ≤ f) (h1 : f ≤ l) (h2 : l ≤ L.now.length) (hn : okText new = true) (hl : (L.now.length : Int) - (l - f) + new.length ≤ 400) (hm : (L.now.length : Int) - (l - f) + new.length ≤ m') (mm : m ≤ m') (c0 : 0 ≤ c) (c1 : c ≤ L.now.length - (l - f) + new.length) : (L.change f l new c).Ok m' := Ok.replace (L := { L with before := L.before ++ [L.pic], later := [], run := 0 }) h.push h0 h1 h2 hn hl hm mm c0 c1
theorem Ok.write (h : L.Ok m) {x : Str} {m' : Nat} (hn : okText x = true) (hl : L.now.length + x.length ≤ 400) (hm : L.now.length + x.length ≤ m') (mm : m ≤ m') : (L.write x).Ok m' := by
  have c := h.caret
  unfold place at c
  unfold LineS.write
  split
  · exact Ok.replace (L := { L with before := L.before ++ [L.pic], later := [], run := 1 }) h.push c.1 (Int.le_refl _) c.2 hn (by show (L.now.length : Int) - _ + _ ≤ _; omega) (by show (L.now.length : Int) - _ + _ ≤ _; omega) mm (by omega) (by show _ ≤ (L.now.length : Int) - _ + _; omega)
  · exact Ok.replace (L := { L with later := [], run := L.run + 1 }) h.unlater c.1 (Int.le_refl _) c.2 hn (by show (L.now.length : Int) - _ + _ ≤ _; omega) (by show (L.now.length : Int) - _ + _ ≤ _; omega) mm (by omega) (by show _ ≤ (L.now.length : Int) - _ + _; omega)
theorem Ok.undo (h : L.Ok m) : L.undo.2.Ok m := by
  unfold LineS.undo
  split
  · exact h.rest
  · rename_i P q
    obtain ⟨ps, e⟩ := List.getLast?_eq_some_iff.mp q
    refine ⟨h.bs P (by rw [e]; simp), fun P hP => h.bs P ((List.dropLast_sublist _).subset hP), fun P hP => ?_⟩
    rcases List.mem_append.mp hP with z | z
    · exact h.ls P z
    · rw [List.mem_singleton.mp z]; exact h.pic
theorem Ok.redo (h : L.Ok m) : L.redo.2.Ok m := by
  unfold LineS.redo
  split
  · exact h.rest
  · rename_i P q
    obtain ⟨ps, e⟩ := List.getLast?_eq_some_iff.mp q
    refine ⟨h.ls P (by rw [e]; simp), fun P hP => ?_, fun P hP => h.ls P ((List.dropLast_sublist _).subset hP)⟩
    rcases List.mem_append.mp hP with z | z
    · exact h.bs P z
    · rw [List.mem_singleton.mp z]; exact h.pic
theorem Ok.pb (h : L.Ok m) : ∀ P ∈ L.before, plainS P.txt = true := fun P hP => plain_ok (h.bs P hP).1
theorem Ok.pl (h : L.Ok m) : ∀ P ∈ L.later, plainS P.txt = true := fun P hP => plain_ok (h.ls P hP).1
end LineS
/-- a new tuple ("refused", w) is told -/
def RefQ (H : Hp) (Q : VK) (w : Str) : Prop := ∀ t H', H t = none → Same H H' → H' t = some (.tup [.str "refused", .str w]) → Q (.ref t) H'
theorem RefQ.same {H H1 : Hp} {Q : VK} {w : Str} (h : RefQ H Q w) (s : Same H H1) : RefQ H1 Q w := fun t H' ht s' e => h t H' (fresh_of s ht) (s.trans s') e
/-! ### what is writable -/
inductive Wr (H : Hp) (b : Addr) : Prop
  | lst {xs : List V} : H b = some (.lst xs) → Wr H b
  | ins {C dx : Addr} {fs : List (Str × V)} : H b = some (.ins C dx fs) → Wr H b
  | dK {kvs : List (Key × V)} : H b = some (.dK kvs) → Wr H b
  | non : H b = none → Wr H b
theorem Wr.mu {H : Hp} {b : Addr} (h : Wr H b) : Mu H b := by
  cases h with
  | lst e => exact Mu.lst e
  | ins e => exact Mu.ins e
  | dK e => exact Mu.dK e
  | non e => exact Mu.non e
theorem Wr.nt {H : Hp} {b : Addr} (h : Wr H b) : ∀ xs, H b ≠ some (.tup xs) := by
  cases h with
  | lst e => exact nt_lst e
  | ins e => exact nt_ins e
  | dK e => exact nt_dK e
  | non e => exact nt_non e
def Wrs (H : Hp) (S : List Addr) : Prop := ∀ b ∈ S, Wr H b
theorem wrs_nil {H : Hp} : Wrs H [] := fun _ h => nomatch h
theorem Wrs.cons {H : Hp} {S : List Addr} {b : Addr} (h : Wr H b) (t : Wrs H S) : Wrs H (b :: S) := fun c hc => by
  rcases List.mem_cons.mp hc with rfl | z
  · exact h
  · exact t c z
theorem Wrs.mu {H : Hp} {S : List Addr} (h : Wrs H S) : ∀ b ∈ S, Mu H b := fun b hb => (h b hb).mu
theorem Wrs.nt {H : Hp} {S : List Addr} (h : Wrs H S) : Nt H S := fun b hb => (h b hb).nt
theorem Wrs.app {H : Hp} {S T : List Addr} (h : Wrs H S) (g : Wrs H T) : Wrs H (S ++ T) := fun b hb => (List.mem_append.mp hb).elim (h b) (g b)
theorem LineAt.wr {K : PySem.W.Frag} {H : Hp} {p lb ll : Addr} {L : LineS} (R : LineAt K H p lb ll L) : Wrs H [p, lb, ll] := by
  obtain ⟨⟨dx, e⟩, ⟨_, e1, _⟩, ⟨_, e2, _⟩, _⟩ := R
  exact .cons (.ins e) (.cons (.lst e1) (.cons (.lst e2) wrs_nil))
/-- what every law has: its script, and the town of draws -/
structure Bs (K : PySem.W.Frag) (H : Hp) (a t : Addr) (ns : List Int) (n : Nat) : Prop where
  scr : Scr K H a ns
  tw : ∃ zs, H t = some (.lst zs) ∧ zs.length ≤ n
section
variable {K : PySem.W.Frag} {H H' : Hp} {a t : Addr} {ns : List Int} {n : Nat} {S : List Addr}
theorem Bs.fr (B : Bs K H a t ns n) (f : Fr S H H') (w : Wrs H S) (h : t ∉ S) : Bs K H' a t ns n := ⟨B.scr.fr f w.mu, let ⟨zs, e, z⟩ := B.tw; ⟨zs, f _ _ e h, z⟩⟩
theorem Bs.same (B : Bs K H a t ns n) (f : Same H H') : Bs K H' a t ns n := B.fr (S := []) (Fr.same f) wrs_nil (by simp)
theorem Bs.mono {n' : Nat} (B : Bs K H a t ns n) (h : n ≤ n') : Bs K H a t ns n' := ⟨B.scr, let ⟨zs, e, z⟩ := B.tw; ⟨zs, e, by omega⟩⟩
theorem Bs.wr (B : Bs K H a t ns n) : Wr H t := let ⟨_, e, _⟩ := B.tw; .lst e
theorem Bs.wrs (B : Bs K H a t ns n) : Wrs H [t] := .cons B.wr wrs_nil
end
/-! ### a law's own line: a dict -/
def stK : List Str := ["now", "before", "later", "run"]
structure StAt (H : Hp) (d sb sl : Addr) (kvs : List (Key × V)) (M : LineS) : Prop where
  ob : H d = some (.dK kvs)
  len : kvs.length ≤ 100
  now : ∃ r, DG kvs "now" (.ref r) ∧ PicAt H r M.pic
  kb : DG kvs "before" (.ref sb)
  kl : DG kvs "later" (.ref sl)
  kr : DG kvs "run" (.int M.run)
  bs : PicsAt H sb M.before
  ls : PicsAt H sl M.later
  ne : sb ≠ sl
section
variable {H H' : Hp} {d sb sl : Addr} {kvs : List (Key × V)} {M : LineS} {S : List Addr}
theorem StAt.fr (R : StAt H d sb sl kvs M) (f : Fr S H H') (n : Nt H S) (h1 : d ∉ S) (h2 : sb ∉ S) (h3 : sl ∉ S) : StAt H' d sb sl kvs M :=
  ⟨f _ _ R.ob h1, R.len, let ⟨r, a, b⟩ := R.now; ⟨r, a, b.fr f n⟩, R.kb, R.kl, R.kr, R.bs.fr f n h2, R.ls.fr f n h3, R.ne⟩
theorem StAt.same (R : StAt H d sb sl kvs M) (f : Same H H') : StAt H' d sb sl kvs M := R.fr (S := []) (Fr.same f) nt_nil (by simp) (by simp) (by simp)
theorem StAt.nes (R : StAt H d sb sl kvs M) : d ≠ sb ∧ d ≠ sl := by
  obtain ⟨_, e1, _⟩ := R.bs
  obtain ⟨_, e2, _⟩ := R.ls
  exact ⟨ne_of R.ob e1 (by intro z; cases z), ne_of R.ob e2 (by intro z; cases z)⟩
theorem StAt.wr (R : StAt H d sb sl kvs M) : Wrs H [d, sb, sl] := by
  obtain ⟨_, e1, _⟩ := R.bs
  obtain ⟨_, e2, _⟩ := R.ls
  exact .cons (.dK R.ob) (.cons (.lst e1) (.cons (.lst e2) wrs_nil))
end
/-! ### what stands apart -/
def Ap (X Y : List Addr) : Prop := ∀ x ∈ X, x ∉ Y
def Alive (H : Hp) (Y : List Addr) : Prop := ∀ y ∈ Y, H y ≠ none
/-- some of these, or new -/
def Nw (H : Hp) (X X' : List Addr) : Prop := ∀ x ∈ X', x ∈ X ∨ H x = none
theorem Ap.symm {X Y : List Addr} (h : Ap X Y) : Ap Y X := fun y hy z => h y z hy
theorem Ap.new {H : Hp} {X X' Y : List Addr} (h : Ap X Y) (g : Nw H X X') (l : Alive H Y) : Ap X' Y := fun x hx hy => by
  rcases g x hx with z | z
  · exact h x z hy
  · exact l x hy z
theorem Ap.sub {X X' Y : List Addr} (h : Ap X Y) (g : ∀ x ∈ X', x ∈ X) : Ap X' Y := fun x hx hy => h x (g x hx) hy
theorem nw_refl {H : Hp} {X : List Addr} : Nw H X X := fun _ h => .inl h
theorem nw_nil {H : Hp} {X : List Addr} : Nw H X [] := fun _ h => nomatch h
theorem Nw.old {H : Hp} {X X' : List Addr} {x : Addr} (t : Nw H X X') (h : x ∈ X) : Nw H X (x :: X') := fun y hy => by
  rcases List.mem_cons.mp hy with rfl | z
  · exact .inl h
  · exact t y z
theorem Nw.new {H : Hp} {X X' : List Addr} {x : Addr} (t : Nw H X X') (h : H x = none) : Nw H X (x :: X') := fun y hy => by
  rcases List.mem_cons.mp hy with rfl | z
  · exact .inr h
  · exact t y z
theorem Nw.or {H : Hp} {X X' : List Addr} {x y : Addr} (t : Nw H X X') (h : x = y ∨ H x = none) (m : y ∈ X) : Nw H X (x :: X') := by
  rcases h with rfl | h
  · exact t.old m
  · exact t.new h
theorem Nw.same {H H0 : Hp} {X X' : List Addr} (t : Nw H X X') (s : Same H0 H) : Nw H0 X X' := fun y hy => (t y hy).elim .inl fun z => .inr (fresh_of s z)
theorem Fr.free {S : List Addr} {H H' : Hp} (f : Fr S H H') {b : Addr} (e : H' b = none) (n : b ∉ S) : H b = none := by
  cases q : H b with
  | none => rfl
  | some o => rw [f b o q n] at e; cases e
theorem Nw.trans {H H' : Hp} {X X' X'' : List Addr} (t : Nw H X X') (u : Nw H' X' X'') (f : Fr X H H') : Nw H X X'' := fun y hy => by
  rcases u y hy with z | z
  · exact t y z
  · by_cases m : y ∈ X
    · exact .inl m
    · exact .inr (f.free z m)
theorem Alive.app {H : Hp} {X Y : List Addr} (h : Alive H X) (g : Alive H Y) : Alive H (X ++ Y) := fun y hy => (List.mem_append.mp hy).elim (h y) (g y)
theorem Alive.fr {H H' : Hp} {X S : List Addr} (h : Alive H X) (f : Fr S H H') (n : Ap X S) : Alive H' X := fun y hy => by
  cases q : H y with
  | none => exact absurd q (h y hy)
  | some o => rw [f y o q (n y hy)]; simp
theorem Wrs.fr {H H' : Hp} {X S : List Addr} (h : Wrs H X) (l : Alive H X) (f : Fr S H H') (n : Ap X S) : Wrs H' X := fun y hy => by
  cases h y hy with
  | lst e => exact .lst (f _ _ e (n y hy))
  | ins e => exact .ins (f _ _ e (n y hy))
  | dK e => exact .dK (f _ _ e (n y hy))
  | non e => exact absurd e (l y hy)
theorem LineAt.alive {K : PySem.W.Frag} {H : Hp} {p lb ll : Addr} {L : LineS} (R : LineAt K H p lb ll L) : Alive H [p, lb, ll] := by
  obtain ⟨⟨dx, e⟩, ⟨_, e1, _⟩, ⟨_, e2, _⟩, _⟩ := R
  intro y hy
  simp only [List.mem_cons, List.not_mem_nil, or_false] at hy
  rcases hy with rfl | rfl | rfl
  · rw [e]; simp
  · rw [e1]; simp
  · rw [e2]; simp
theorem StAt.alive {H : Hp} {d sb sl : Addr} {kvs : List (Key × V)} {M : LineS} (R : StAt H d sb sl kvs M) : Alive H [d, sb, sl] := by
  obtain ⟨_, e1, _⟩ := R.bs
  obtain ⟨_, e2, _⟩ := R.ls
  intro y hy
  simp only [List.mem_cons, List.not_mem_nil, or_false] at hy
  rcases hy with rfl | rfl | rfl
  · rw [R.ob]; simp
  · rw [e1]; simp
  · rw [e2]; simp
theorem LineAt.ap {K : PySem.W.Frag} {H H' : Hp} {p lb ll : Addr} {L : LineS} {S : List Addr} (R : LineAt K H p lb ll L) (f : Fr S H H') (w : Wrs H S) (n : Ap [p, lb, ll] S) : LineAt K H' p lb ll L := R.fr f w.nt (n p (by simp)) (n lb (by simp)) (n ll (by simp))
theorem StAt.ap {H H' : Hp} {d sb sl : Addr} {kvs : List (Key × V)} {M : LineS} {S : List Addr} (R : StAt H d sb sl kvs M) (f : Fr S H H') (w : Wrs H S) (n : Ap [d, sb, sl] S) : StAt H' d sb sl kvs M := R.fr f w.nt (n d (by simp)) (n sb (by simp)) (n sl (by simp))
/-- the script and the town, the program's objects at X, the law's at Y, all apart -/
structure Wd (K : PySem.W.Frag) (H : Hp) (a t : Addr) (ns : List Int) (n : Nat) (X Y : List Addr) : Prop where
  bs : Bs K H a t ns n
  tx : t ∉ X
  ty : t ∉ Y
  xy : Ap X Y
section
variable {K : PySem.W.Frag} {H H' : Hp} {a t : Addr} {ns : List Int} {n : Nat} {X Y X' Y' : List Addr}
theorem Bs.alive (B : Bs K H a t ns n) : Alive H [t] := by
  obtain ⟨_, e, _⟩ := B.tw
  intro y hy
  rw [List.mem_singleton.mp hy, e]; simp
theorem ap1 (h : t ∉ X) : Ap X [t] := fun x hx hy => h (List.mem_singleton.mp hy ▸ hx)
theorem Wd.same (W : Wd K H a t ns n X Y) (s : Same H H') : Wd K H' a t ns n X Y := ⟨W.bs.same s, W.tx, W.ty, W.xy⟩
theorem Wd.draw {n' : Nat} (W : Wd K H a t ns n X Y) (B : Bs K H' a t ns n') : Wd K H' a t ns n' X Y := ⟨B, W.tx, W.ty, W.xy⟩
theorem Wd.mono {n' : Nat} (W : Wd K H a t ns n X Y) (h : n ≤ n') : Wd K H a t ns n' X Y := ⟨W.bs.mono h, W.tx, W.ty, W.xy⟩
theorem Wd.x (W : Wd K H a t ns n X Y) (f : Fr X H H') (w : Wrs H X) (g : Nw H X X') (l : Alive H Y) : Wd K H' a t ns n X' Y :=
  ⟨W.bs.fr f w W.tx, fun z => (ap1 W.tx).new g W.bs.alive t z (by simp), W.ty, W.xy.new g l⟩
theorem Wd.y (W : Wd K H a t ns n X Y) (f : Fr Y H H') (w : Wrs H Y) (g : Nw H Y Y') (l : Alive H X) : Wd K H' a t ns n X Y' :=
  ⟨W.bs.fr f w W.ty, W.tx, fun z => (ap1 W.ty).new g W.bs.alive t z (by simp), (W.xy.symm.new g l).symm⟩
end
/-! ### the law's own line is changed -/
section
variable {H H' : Hp} {d sb sl r b : Addr} {kvs : List (Key × V)} {M : LineS} {P : Pic} {ps : List Pic}
theorem StAt.putRun (R : StAt H d sb sl kvs M) (i : Int) : StAt (upd H d (.dK (putK kvs (.inr "run") (.int i)))) d sb sl (putK kvs (.inr "run") (.int i)) { M with run := i } := by
  obtain ⟨ho, hlen, ⟨r, hr, hp⟩, kb, kl, kr, hb, hll, hne⟩ := id R
  have f : Fr [d] H (upd H d (.dK (putK kvs (.inr "run") (.int i)))) := Fr.upd Fr.refl (by simp)
  have nt : Nt H [d] := .cons (nt_dK ho) nt_nil
  exact ⟨upd_same, by rw [put_len kr]; exact hlen, ⟨r, dg_ne rfl hr, hp.fr f nt⟩, dg_ne rfl kb, dg_ne rfl kl, dg_same, hb.fr f nt (not_mem1 R.nes.1.symm), hll.fr f nt (not_mem1 R.nes.2.symm), hne⟩
theorem StAt.putNow (R : StAt H d sb sl kvs M) (hP : PicAt H r P) : StAt (upd H d (.dK (putK kvs (.inr "now") (.ref r)))) d sb sl (putK kvs (.inr "now") (.ref r)) { M with now := P.txt, caret := P.at_, mark := P.mrk } := by
  obtain ⟨ho, hlen, ⟨r0, hr, hp⟩, kb, kl, kr, hb, hll, hne⟩ := id R
  have f : Fr [d] H (upd H d (.dK (putK kvs (.inr "now") (.ref r)))) := Fr.upd Fr.refl (by simp)
  have nt : Nt H [d] := .cons (nt_dK ho) nt_nil
  exact ⟨upd_same, by rw [put_len hr]; exact hlen, ⟨r, dg_same, hP.fr f nt⟩, dg_ne rfl kb, dg_ne rfl kl, dg_ne rfl kr, hb.fr f nt (not_mem1 R.nes.1.symm), hll.fr f nt (not_mem1 R.nes.2.symm), hne⟩
theorem StAt.putBefore (R : StAt H d sb sl kvs M) (hP : PicsAt H b ps) (hd : d ≠ b) (hl : b ≠ sl) : StAt (upd H d (.dK (putK kvs (.inr "before") (.ref b)))) d b sl (putK kvs (.inr "before") (.ref b)) { M with before := ps } := by
  obtain ⟨ho, hlen, ⟨r0, hr, hp⟩, kb, kl, kr, hb, hll, hne⟩ := id R
  have f : Fr [d] H (upd H d (.dK (putK kvs (.inr "before") (.ref b)))) := Fr.upd Fr.refl (by simp)
  have nt : Nt H [d] := .cons (nt_dK ho) nt_nil
  exact ⟨upd_same, by rw [put_len kb]; exact hlen, ⟨r0, dg_ne rfl hr, hp.fr f nt⟩, dg_same, dg_ne rfl kl, dg_ne rfl kr, hP.fr f nt (not_mem1 hd.symm), hll.fr f nt (not_mem1 R.nes.2.symm), hl⟩
theorem StAt.putLater (R : StAt H d sb sl kvs M) (hP : PicsAt H b ps) (hd : d ≠ b) (hl : sb ≠ b) : StAt (upd H d (.dK (putK kvs (.inr "later") (.ref b)))) d sb b (putK kvs (.inr "later") (.ref b)) { M with later := ps } := by
  obtain ⟨ho, hlen, ⟨r0, hr, hp⟩, kb, kl, kr, hb, hll, hne⟩ := id R
  have f : Fr [d] H (upd H d (.dK (putK kvs (.inr "later") (.ref b)))) := Fr.upd Fr.refl (by simp)
  have nt : Nt H [d] := .cons (nt_dK ho) nt_nil
  exact ⟨upd_same, by rw [put_len kl]; exact hlen, ⟨r0, dg_ne rfl hr, hp.fr f nt⟩, dg_ne rfl kb, dg_same, dg_ne rfl kr, hb.fr f nt (not_mem1 R.nes.1.symm), hP.fr f nt (not_mem1 hd.symm), hl⟩
theorem StAt.push {rs : List Addr} (R : StAt H d sb sl kvs M) (hn : DG kvs "now" (.ref r)) (e : H sb = some (.lst (rs.map V.ref))) : StAt (upd H sb (.lst (rs.map V.ref ++ [.ref r]))) d sb sl kvs { M with before := M.before ++ [M.pic] } := by
  obtain ⟨ho, hlen, ⟨r0, hr, hp⟩, kb, kl, kr, ⟨rs', e', hb⟩, hll, hne⟩ := id R
  have er : r0 = r := by
    have := hr.symm.trans hn
    injection this with this; injection this
  subst er
  have ers : rs.map V.ref = rs'.map V.ref := by rw [e] at e'; injection e' with e'; injection e'
  rw [ers] at e ⊢
  have f : Fr [sb] H (upd H sb (.lst (rs'.map V.ref ++ [.ref r0]))) := Fr.upd Fr.refl (by simp)
  have nt : Nt H [sb] := .cons (nt_lst e) nt_nil
  exact ⟨f _ _ ho (not_mem1 R.nes.1), hlen, ⟨r0, hr, hp.fr f nt⟩, kb, kl, kr, ⟨rs' ++ [r0], by rw [upd_same, List.map_append]; rfl, paired_snoc (pics_fr hb f nt) (hp.fr f nt)⟩, hll.fr f nt (not_mem1 hne.symm), hne⟩
end
namespace LineS
variable {L : LineS} {m b : Nat}
theorem write_len {x : Str} : (L.write x).before.length ≤ L.before.length + 1 ∧ (L.write x).later.length = 0 := by
  unfold LineS.write
  split
  · exact ⟨by simp [replace], rfl⟩
  · exact ⟨by simp [replace], rfl⟩
theorem change_len {x : Str} {f l c : Int} : (L.change f l x c).before.length ≤ L.before.length + 1 ∧ (L.change f l x c).later.length = 0 := ⟨by simp [change, replace], rfl⟩
theorem undo_len : L.undo.2.before.length ≤ L.before.length ∧ L.undo.2.later.length ≤ L.later.length + 1 := by
  unfold LineS.undo
  split
  · exact ⟨Nat.le_refl _, Nat.le_succ _⟩
  · exact ⟨by simp, by simp⟩
theorem redo_len : L.redo.2.before.length ≤ L.before.length + 1 ∧ L.redo.2.later.length ≤ L.later.length := by
  unfold LineS.redo
  split
  · exact ⟨Nat.le_succ _, Nat.le_refl _⟩
  · exact ⟨by simp, by simp⟩
end LineS
theorem chk_none {L : LineS} {f l : Int} {x : Str} (h1 : LineS.place L.now f) (h2 : LineS.place L.now l) (h3 : okText x = true) (h4 : (L.now.length : Int) - (l - f) + x.length ≤ 400) : chk L f l x = none := by
  unfold chk
  rw [if_pos h1, if_pos h2, if_pos h3, if_neg]
  show ¬ (L.now.length : Int) - (l - f) + x.length > 400
  omega
/-! ### lookups behind writes -/
theorem upd_new {H : Hp} {p q : Addr} {o o' : HO} (hf : H q = none) (h : H p = some o) : upd H q o' p = some o := by rw [upd_ne (ne_of_none h hf)]; exact h
def hk : HO → Nat
  | .lst _ => 0
  | .tup _ => 1
  | .ins _ _ _ => 2
  | .dK _ => 3
  | _ => 4
theorem upd_kd {H : Hp} {p q : Addr} {o o' : HO} (hq : ∃ o2, H q = some o2 ∧ Nat.beq (hk o) (hk o2) = false) (h : H p = some o) : upd H q o' p = some o := by
  obtain ⟨o2, hq, n⟩ := hq
  rw [upd_ne (fun z => by subst z; rw [h] at hq; cases hq; rw [Nat.beq_refl] at n; cases n)]; exact h
section
variable {K : PySem.W.Frag} {H H1 : Hp} {Q : VK} {σ : L2.St} {te : TE} {vs : List Nat} {D : Addr} {Qd : Hp → Prop}
theorem lc_refPair {a : Addr} {xs : List V} {i j : Nat} {w : Str} (hL : H1 a = some (.lst xs)) (hn : xs.length < 1000) (hw : ∀ u v, wipe (((wipe σ vs).set i (some u)).set j (some v)) vs = wipe σ vs) (hD : H1 D = none)
    (he : ∀ x ∈ xs, ∃ (r : Addr) (u v : V), x = .ref r ∧ H1 r = some (.tup [u, v]) ∧ RefGo te (((wipe σ vs).set i (some u)).set j (some v)) w H1) (hd : ∀ H', RefEnd H1 D xs.length w H' → Qd H') : LcGo (Itl K a) (gTup K 2 (gCons (gName i) (gCons (gName j) gNil))) tYes te vs σ D H1 Qd := by
  refine lg_list (K := K) (xs := xs) (fun i H2 => RefEnd H1 D i w H2) ⟨Same.own (Same.refl _) hD, [], upd_same, rfl, by simp⟩ (fun i H2 _ p => SqL.of (p.1 _ _ hL)) ?_ hd
  intro n x H2 hx p
  obtain ⟨r, u, v, rfl, hr, go⟩ := he x (List.mem_of_getElem? hx)
  refine z_gtup (SqT.of (p.1 _ _ hr)) rfl (z_gcons (z_gname (z_gcons (z_gname (z_gnil ?_)))))
  exact ⟨hw _ _, z_yes (iteT (ref_turn hn (List.getElem?_eq_some_iff.mp hx).1 hD p go))⟩
end
section
variable {K : PySem.W.Frag} {H1 H8 : Hp} {Q : VK} {σ : L2.St} {D : Addr} {n : Nat} {w : Str}
theorem refs_all {r : V → V → Hp → VK → Prop} (e : RefEnd H1 D n w H8) (hn : n ≤ 100) (hw : plainS w = true) (k : ∀ (y : V) (H9 : Hp), Same H8 H9 → Dp K H9 (.ref D) (refsD n w) → Dp K H9 y (refsD n w) → SeqAt.shaped (refsD n w) = true → r (.ref D) y H9 Q) :
    tOp rRep (tLst (tCons (tTup (tCons (tC (.str "refused")) (tCons (tC (.str w)) tNil))) tNil)) (tC (.int (n : Nat))) σ H8 (fun y H2 => r (.ref D) y H2 Q) := by
  obtain ⟨s8, rs, hrs, hrl, hrr⟩ := e
  refine z_op (z_lst (z_cons (z_tup (z_cons (z_c (z_cons (z_c (z_nil ⟨by rw [sizeLine_eq]; show 2 ≤ _; decide, fun c1 hc1 => z_nil ⟨by rw [sizeLine_eq]; show 1 ≤ _; decide, fun c2 hc2 => z_c ?_⟩⟩))))))))
  refine z_rep upd_same (by omega) (by omega) (by rw [sizeLine_eq]; show 1 * ((n : Int)).toNat ≤ _; omega) fun c3 hc3 => ?_
  have nc21 := (un_fresh hc2).1
  have nc31 := (un_fresh (un_fresh hc3).2).1
  have sc3 := Same.new (Same.new (Same.new (Same.refl H8) hc1 (o := .tup [.str "refused", .str w])) hc2 (o := .lst [.ref c1])) hc3 (o := .lst (List.replicate (n : Int).toNat [V.ref c1]).flatten)
  exact k _ _ sc3 (dp_refs (sc3 _ _ hrs) hrl fun r hr => sc3 _ _ (hrr r hr)) (dp_rep n upd_same (by rw [upd_ne nc31.symm, upd_ne nc21.symm, upd_same])) (shaped_refs hw n)
theorem z_refsNe (e : RefEnd H1 D n w H8) (hn : n ≤ 100) (hw : plainS w = true) (k : ∀ H9, Same H8 H9 → Q (.bl false) H9) : tOp rRep (tLst (tCons (tTup (tCons (tC (.str "refused")) (tCons (tC (.str w)) tNil))) tNil)) (tC (.int (n : Nat))) σ H8 (fun y H2 => rNeD K (.ref D) y H2 Q) :=
  refs_all (K := K) (r := rNeD K) e hn hw fun y H9 s a b c => z_neS a b c (k H9 s)
theorem z_refsEq (e : RefEnd H1 D n w H8) (hn : n ≤ 100) (hw : plainS w = true) (k : ∀ H9, Same H8 H9 → Q (.bl true) H9) : tOp rRep (tLst (tCons (tTup (tCons (tC (.str "refused")) (tCons (tC (.str w)) tNil))) tNil)) (tC (.int (n : Nat))) σ H8 (fun y H2 => rEqD K (.ref D) y H2 Q) :=
  refs_all (K := K) (r := rEqD K) e hn hw fun y H9 s a b c => z_eqS a b c (k H9 s)
end
theorem chk_p1 {L : LineS} {f l : Int} {x : Str} (h : ¬ LineS.place L.now f) : chk L f l x = some (Str.ofString "BadPlace") := by unfold chk; rw [if_neg h]
theorem chk_p2 {L : LineS} {f l : Int} {x : Str} (h1 : LineS.place L.now f) (h : ¬ LineS.place L.now l) : chk L f l x = some (Str.ofString "BadPlace") := by unfold chk; rw [if_pos h1, if_neg h]
theorem chk_t1 {L : LineS} {f l : Int} {x : Str} (h1 : LineS.place L.now f) (h2 : LineS.place L.now l) (h : okText x = false) : chk L f l x = some (Str.ofString "BadText") := by unfold chk; rw [if_pos h1, if_pos h2, if_neg (by rw [h]; decide)]
theorem chk_t2 {L : LineS} {f l : Int} {x : Str} (h1 : LineS.place L.now f) (h2 : LineS.place L.now l) (h : (L.now.length : Int) - (l - f) + x.length > 400) : chk L f l x = some (Str.ofString "BadText") := by
  unfold chk
  rw [if_pos h1, if_pos h2]
  split
  · rw [if_pos (show L.len - (l - f) + x.length > 400 from h)]
  · rfl

/-! ### a list, the last first -/
theorem pe_revLK {X : Cx} {K : PySem.W.Frag} {e : Expr} {te : TE} {k : Nat} {p1 p2 p3 pos : Pos} (h : X.K = K) (he : PE X e te) : PE X (.Subscript e (.Slice none none (some (.UnaryOp .USub (.Constant (.int 1) k p1) p2)) p3) pos) (tRevL K te) := h ▸ pe_revL he
theorem z_revL {σ : L2.St} {H : Hp} {Q : VK} {K : PySem.W.Frag} {te : TE} (q : te σ H fun x H1 => ∃ a xs, x = .ref a ∧ SqL K H1 a xs ∧ ∀ p, H1 p = none → Q (.ref p) (upd H1 p (.lst xs.reverse))) : tRevL K te σ H Q := q
theorem z_revL1 {H : Hp} {K : PySem.W.Frag} {a : Addr} {xs : List V} {P : List V → Prop} (h : SqL K H a xs) (q : P xs) : ∃ a' xs', V.ref a = .ref a' ∧ SqL K H a' xs' ∧ P xs' := ⟨a, xs, rfl, h, q⟩
theorem z_notV {σ : L2.St} {H : Hp} {Q : VK} {ta : TE} (q : ta σ H fun x H1 => ∃ c, x = .bl c ∧ Q (.bl (!c)) H1) : tNotV ta σ H Q := q
theorem min_ite {i j : Int} : (if j < i then j else i) = min i j := by omega
theorem max_ite {i j : Int} : (if j > i then j else i) = max i j := by omega
theorem z_ifCS {σ : L2.St} {H : Hp} {Q : VK} {b : Bool} {s1 s2 : Str} (q : Q (.str (if b = true then s1 else s2)) H) : if b = true then tC (.str s1) σ H Q else tC (.str s2) σ H Q := by
  cases b <;> exact q
namespace LineS
theorem spliced_end {x new : Str} {n : Int} (h : n = x.length) : spliced x n n new = x ++ new := by
  apply str_ext
  unfold spliced
  have := len_tl x
  rw [tl_S, tl_app, List.take_of_length_le (by omega), List.drop_of_length_le (by omega), List.append_nil]
theorem spliced_start {x new : Str} : spliced x 0 0 new = new ++ x := by
  apply str_ext
  unfold spliced
  rw [tl_S, tl_app]; rfl
end LineS
theorem drop_last_app {x : Str} {c : Nat} : S ((tl (x ++ (⟨#[c]⟩ : Str))).dropLast) = x := by
  apply str_ext
  rw [tl_S, tl_app]
  show (tl x ++ [c]).dropLast = _
  simp
/-! ### methods of texts, by names -/
section
variable {X : Cx} {K : PySem.W.Frag} {H : Hp} {Q : VK} {a b : Str} {i j : Int} {p : Addr}
def rJoin (K : PySem.W.Frag) : V → List V → Hp → VK → Prop := fun x xs H Q => ∃ a p, ∃ ys : List Str, x = .str a ∧ xs = [.ref p] ∧ (SqL K H p (ys.map V.str) ∨ SqT K H p (ys.map V.str)) ∧ (ys.map (·.length)).sum + ys.length * a.length ≤ 16777216 ∧ Q (.str (Txt.join a ys)) H
theorem mt_joinK (h : X.K = K) : MtR X "str.join" (rJoin K) := h ▸ mt_join
theorem z_join {ys : List Str} (h : SqL K H p (ys.map V.str)) (hl : (ys.map (·.length)).sum + ys.length * a.length ≤ 16777216) (q : Q (.str (Txt.join a ys)) H) : rJoin K (.str a) [.ref p] H Q := ⟨a, p, ys, rfl, rfl, .inl h, hl, q⟩
def rUpper : V → List V → Hp → VK → Prop := fun x xs H Q => ∃ a, x = .str a ∧ xs = [] ∧ a.length ≤ 5592405 ∧ Q (.str (Txt.upper a)) H
theorem mt_upperN : MtR X "str.upper" rUpper := mt_upper
theorem z_upper (hl : a.length ≤ 5592405) (q : Q (.str (Txt.upper a)) H) : rUpper (.str a) [] H Q := ⟨a, rfl, rfl, hl, q⟩
def rLower : V → List V → Hp → VK → Prop := fun x xs H Q => ∃ a, x = .str a ∧ xs = [] ∧ a.length ≤ 5592405 ∧ Q (.str (Txt.lower a)) H
theorem mt_lowerN : MtR X "str.lower" rLower := mt_lower
theorem z_lower (hl : a.length ≤ 5592405) (q : Q (.str (Txt.lower a)) H) : rLower (.str a) [] H Q := ⟨a, rfl, rfl, hl, q⟩
def rIsalpha : V → List V → Hp → VK → Prop := fun x xs H Q => ∃ a, x = .str a ∧ xs = [] ∧ True ∧ Q (.bl (Txt.isalpha a)) H
theorem mt_isalphaN : MtR X "str.isalpha" rIsalpha := mt_isalpha
theorem z_isalpha (q : Q (.bl (Txt.isalpha a)) H) : rIsalpha (.str a) [] H Q := ⟨a, rfl, rfl, trivial, q⟩
def rStarts : V → List V → Hp → VK → Prop := fun x xs H Q => ∃ a b, x = .str a ∧ xs = [.str b] ∧ Q (.bl (Txt.startswith a b)) H
theorem mt_startsN : MtR X "str.startswith" rStarts := mt_startswith
theorem z_starts (q : Q (.bl (Txt.startswith a b)) H) : rStarts (.str a) [.str b] H Q := ⟨a, b, rfl, rfl, q⟩
def rFind : V → List V → Hp → VK → Prop := fun x xs H Q => ∃ a b, x = .str a ∧ xs = [.str b] ∧ Q (.int (Txt.find a b)) H
theorem mt_findN : MtR X "str.find" rFind := mt_find
theorem z_find (q : Q (.int (Txt.find a b)) H) : rFind (.str a) [.str b] H Q := ⟨a, b, rfl, rfl, q⟩
def rFind3 : V → List V → Hp → VK → Prop := fun x xs H Q => ∃ (a b : Str) (i : Int), x = .str a ∧ xs = [.str b, .int i] ∧ Q (.int (Txt.find3 a b i)) H
theorem mt_find3N : MtR X "str.find" rFind3 := mt_find3
theorem z_find3 (q : Q (.int (Txt.find3 a b i)) H) : rFind3 (.str a) [.str b, .int i] H Q := ⟨a, b, i, rfl, rfl, q⟩
def rRfind4 : V → List V → Hp → VK → Prop := fun x xs H Q => ∃ (a b : Str) (i j : Int), x = .str a ∧ xs = [.str b, .int i, .int j] ∧ Q (.int (Txt.rfindIn a b i j)) H
theorem mt_rfind4N : MtR X "str.rfind" rRfind4 := mt_rfind4
theorem z_rfind4 (q : Q (.int (Txt.rfindIn a b i j)) H) : rRfind4 (.str a) [.str b, .int i, .int j] H Q := ⟨a, b, i, j, rfl, rfl, q⟩
def rInt1 : List V → Hp → VK → Prop := fun xs H Q => (∃ i, xs = [.int i] ∧ Q (.int i) H) ∨ ∃ k, xs = [.bl k] ∧ Q (.int (if k then 1 else 0)) H
theorem call_int1N : CallR X (.type "int") rInt1 := call_int1
theorem z_int1b {k : Bool} (q : Q (.int (if k then 1 else 0)) H) : rInt1 [.bl k] H Q := .inr ⟨k, rfl, q⟩
def rIntStr : List V → Hp → VK → Prop := fun xs H Q => ∃ a n, xs = [.str a] ∧ PySem.intText? a = some n ∧ a.length ≤ 640 ∧ Q (.int n) H
theorem call_int_strN : CallR X (.type "int") rIntStr := call_int_str
theorem z_intStr {n : Int} (h : PySem.intText? a = some n) (hl : a.length ≤ 640) (q : Q (.int n) H) : rIntStr [.str a] H Q := ⟨a, n, rfl, h, hl, q⟩
end
theorem tl_join : ∀ (ys : List Str), tl (Txt.join "" ys) = ys.flatMap tl
  | [] => rfl
  | [y] => by simp [Txt.join, Builtin.Str.glued]
  | y :: z :: r => by
    have h := tl_join (z :: r)
    unfold Txt.join at h ⊢
    rw [StrLaws.glued_eq_join] at h ⊢
    show tl (y ++ "" ++ Str.join "" (z :: r)) = _
    rw [tl_app, tl_app, h, show tl "" = [] from rfl, List.append_nil]
    simp
theorem tl_blanks (n : Int) : tl (Txt.mul " " n) = List.replicate n.toNat 32 := mul_one_list 32 n
/-! ### windows -/
def winF (w f : Int) : List (Str × V) := [("width", .int w), ("first", .int f)]
def WinAt (K : PySem.W.Frag) (H : Hp) (p : Addr) (w f : Int) : Prop := ∃ dx, H p = some (.ins (He.ga K "Window") dx (winF w f))
theorem WinAt.same {K : PySem.W.Frag} {H H' : Hp} {p : Addr} {w f : Int} (R : WinAt K H p w f) (h : Same H H') : WinAt K H' p w f := let ⟨dx, e⟩ := R; ⟨dx, h _ _ e⟩
/-- the first place shown, of a long text -/
def winFirst (w f n a : Int) : Int := max (a - (w - 2) + 1) (min (min f (n + 1 - (w - 2))) a)
def winPart (w g : Int) (x : Str) : List Nat := ((tl x).drop g.toNat).take (w - 2).toNat
def winShown (w g : Int) (x : Str) : Str := S ((if g > 0 then 60 else 32) :: (winPart w g x ++ List.replicate ((w - 2).toNat - (winPart w g x).length) 32 ++ [if g + (w - 2) < x.length then 62 else 32]))
/-- what is shown, its column, the first place -/
def winView (w f : Int) (x : Str) (a : Int) : Str × Int × Int :=
  if (x.length : Int) < w then (x, a, 0) else (winShown w (winFirst w f x.length a) x, a - winFirst w f x.length a + 1, winFirst w f x.length a)
theorem winFirst_ok {w f n a : Int} (hw : 4 ≤ w) (hf : 0 ≤ f) (hn : w ≤ n) (ha : 0 ≤ a) (hn2 : a ≤ n) : 0 ≤ winFirst w f n a ∧ winFirst w f n a ≤ a ∧ a < winFirst w f n a + (w - 2) := by
  unfold winFirst; omega
theorem winView_first {w f : Int} {x : Str} {a : Int} (hw : 4 ≤ w) (hf : 0 ≤ f) (ha : LineS.place x a) : 0 ≤ (winView w f x a).2.2 := by
  unfold winView
  split
  · exact Int.le_refl _
  · exact (winFirst_ok hw hf (by omega) ha.1 ha.2).1
theorem len_winShown {w g : Int} {x : Str} (hw : 4 ≤ w) : ((winShown w g x).length : Int) = w := by
  unfold winShown winPart
  rw [len_S]
  simp only [List.length_cons, List.length_append, List.length_replicate, List.length_nil, List.length_take, List.length_drop]
  omega
/-- the caret's sign is at its column -/
theorem winView_sign {w f : Int} {x : Str} {a : Int} (hw : 4 ≤ w) (hf : 0 ≤ f) (ha : 0 ≤ a) (hl : a < x.length) : ∃ c, (tl x)[a.toNat]? = some c ∧ 0 ≤ (winView w f x a).2.1 ∧ (tl (winView w f x a).1)[(winView w f x a).2.1.toNat]? = some c := by
  have e := len_tl x
  obtain ⟨c, hc⟩ : ∃ c, (tl x)[a.toNat]? = some c := ⟨_, List.getElem?_eq_getElem (by omega)⟩
  refine ⟨c, hc, ?_⟩
  unfold winView
  split
  · exact ⟨ha, hc⟩
  · obtain ⟨h1, h2, h3⟩ := winFirst_ok (w := w) (f := f) (n := x.length) (a := a) hw hf (by omega) ha (by omega)
    generalize winFirst w f x.length a = g at *
    refine ⟨by show 0 ≤ a - g + 1; omega, ?_⟩
    show (tl (winShown w g x))[(a - g + 1).toNat]? = _
    unfold winShown
    rw [tl_S, show (a - g + 1).toNat = (a - g).toNat + 1 by omega, List.getElem?_cons_succ, List.append_assoc]
    have hp : (a - g).toNat < (winPart w g x).length := by unfold winPart; rw [List.length_take, List.length_drop]; omega
    rw [List.getElem?_append_left hp]
    unfold winPart
    rw [List.getElem?_take_of_lt (by omega), List.getElem?_drop, show g.toNat + (a - g).toNat = a.toNat by omega]
    exact hc
theorem winView_len {w f : Int} {x : Str} {a : Int} (hw : 4 ≤ w) : ((winView w f x a).1.length : Int) ≤ w := by
  unfold winView
  split
  · show (x.length : Int) ≤ w; omega
  · exact Int.le_of_eq (len_winShown hw)
theorem winView_plain {w f : Int} {x : Str} {a : Int} (h : plainS x = true) : plainS (winView w f x a).1 = true := by
  unfold winView
  split
  · exact h
  · show plainS (winShown _ _ _) = true
    unfold winShown plainS winPart at *
    rw [tl_S, List.all_cons, Bool.and_eq_true]
    refine ⟨by split <;> rfl, ?_⟩
    rw [List.all_append, List.all_append, Bool.and_eq_true, Bool.and_eq_true]
    refine ⟨⟨?_, ?_⟩, by split <;> rfl⟩
    · rw [List.all_eq_true] at h ⊢
      exact fun c hc => h c (List.mem_of_mem_drop (List.mem_of_mem_take hc))
    · rw [List.all_eq_true]
      intro c hc
      rw [List.eq_of_mem_replicate hc]; rfl

/-! ### letters and words -/
def isL (c : Nat) : Bool := (decide (97 ≤ c) && decide (c ≤ 122)) || ((decide (65 ≤ c) && decide (c ≤ 90)) || (decide (48 ≤ c) && decide (c ≤ 57)))
/-- whether a letter or a figure stands at a place -/
def letAt (l : List Nat) (i : Int) : Bool := decide (0 ≤ i) && (l[i.toNat]?).any isL
def upc (c : Nat) : Nat := if 97 ≤ c ∧ c ≤ 122 then c - 32 else c
def loc (c : Nat) : Nat := if 65 ≤ c ∧ c ≤ 90 then c + 32 else c
theorem isL_in (c : Nat) (h : c < 128) : (!(Builtin.Str.occurrences "abcdefghijklmnopqrstuvwxyzABCDEFGHIJKLMNOPQRSTUVWXYZ0123456789" ⟨#[c]⟩ 0 (Str.length "abcdefghijklmnopqrstuvwxyzABCDEFGHIJKLMNOPQRSTUVWXYZ0123456789") 1).isEmpty) = isL c := by
  have h' : ∀ c : Fin 128, (!(Builtin.Str.occurrences "abcdefghijklmnopqrstuvwxyzABCDEFGHIJKLMNOPQRSTUVWXYZ0123456789" ⟨#[c.1]⟩ 0 (Str.length "abcdefghijklmnopqrstuvwxyzABCDEFGHIJKLMNOPQRSTUVWXYZ0123456789") 1).isEmpty) = isL c.1 := by decide +kernel
  exact h' ⟨c, h⟩
theorem isL_alpha (c : Nat) (h : c < 128) : (Txt.isalpha ⟨#[c]⟩ || !(Builtin.Str.occurrences "0123456789" ⟨#[c]⟩ 0 (Str.length "0123456789") 1).isEmpty) = isL c := by
  have h' : ∀ c : Fin 128, (Txt.isalpha ⟨#[c.1]⟩ || !(Builtin.Str.occurrences "0123456789" ⟨#[c.1]⟩ 0 (Str.length "0123456789") 1).isEmpty) = isL c.1 := by decide +kernel
  exact h' ⟨c, h⟩
theorem up1 (c : Nat) (h : c < 128) : Unicode.upperOf c = [upc c] := by
  have h' : ∀ c : Fin 128, Unicode.upperOf c.1 = [upc c.1] := by decide +kernel
  exact h' ⟨c, h⟩
theorem lo1 (c : Nat) (h : c < 128) : Unicode.lowerOf c = [loc c] := by
  have h' : ∀ c : Fin 128, Unicode.lowerOf c.1 = [loc c.1] := by decide +kernel
  exact h' ⟨c, h⟩
theorem mapIdx_flat {f : Nat → Nat → List Nat} {g : Nat → Nat} : ∀ (l : List Nat) (k : Nat), (∀ i c, l[i]? = some c → f (k + i) c = [g c]) → ((l.mapIdx fun i c => f (k + i) c).flatten) = l.map g
  | [], _, _ => rfl
  | c :: r, k, h => by
    rw [List.mapIdx_cons, List.flatten_cons, List.map_cons]
    have h0 : f (k + 0) c = [g c] := h 0 c rfl
    have ih := mapIdx_flat (f := f) (g := g) r (k + 1) fun i d hd => by
      have := h (i + 1) d (by simpa using hd)
      rw [← this]; congr 1; omega
    rw [h0]
    have e : (r.mapIdx fun i c => f (k + (i + 1)) c) = r.mapIdx fun i c => f (k + 1 + i) c := by
      congr 1; funext i c; congr 1; omega
    rw [e, ih]; rfl
theorem placed_map {x : Str} {f : Nat → Nat → List Nat} {g : Nat → Nat} (h : ∀ i c, (tl x)[i]? = some c → f i c = [g c]) : tl ⟨placed x f⟩ = (tl x).map g := by
  have := mapIdx_flat (f := f) (g := g) (tl x) 0 fun i c hc => by rw [Nat.zero_add]; exact h i c hc
  rw [← this]
  show (placed x f).toList = _
  unfold placed tl
  rw [Array.toList_flatten, Array.toList_mapIdx]
  congr 1
  apply List.ext_getElem?
  intro i
  simp
  rfl
theorem tl_upper {x : Str} (h : plainS x = true) : tl (Txt.upper x) = (tl x).map upc := by
  refine placed_map fun i c hc => up1 c ?_
  unfold plainS at h
  exact of_decide_eq_true (List.all_eq_true.mp h c (List.mem_of_getElem? hc))
theorem tl_lower {x : Str} (h : plainS x = true) : tl (Txt.lower x) = (tl x).map loc := by
  refine placed_map fun i c hc => ?_
  have hc' : x.cps[i]? = some c := by unfold tl at hc; rw [Array.getElem?_toList] at hc; exact hc
  unfold plainS at h
  have hl := of_decide_eq_true (List.all_eq_true.mp h c (List.mem_of_getElem? hc))
  unfold Unicode.lowerAt
  rw [hc']
  show (if (c == 0x3A3 && Unicode.endsWord x.cps i) = true then [0x3C2] else Unicode.lowerOf c) = _
  rw [if_neg, lo1 c hl]
  have : (c == 0x3A3) = false := beq_eq_false_iff_ne.mpr (by omega)
  rw [this]; exact Bool.false_ne_true
theorem upc_ok {c : Nat} (h : isL c = true) : okc (upc c) = true ∧ okc (loc c) = true := by
  unfold isL at h
  have hc : c < 128 := by simp at h; omega
  have h' : ∀ c : Fin 128, isL c.1 = true → okc (upc c.1) = true ∧ okc (loc c.1) = true := by decide +kernel
  exact h' ⟨c, hc⟩ h
theorem letAt_neg {l : List Nat} {i : Int} (h : i < 0) : letAt l i = false := by unfold letAt; rw [decide_eq_false (by omega)]; rfl
theorem letAt_big {l : List Nat} {i : Int} (h : (l.length : Int) ≤ i) : letAt l i = false := by
  unfold letAt; rw [List.getElem?_eq_none (by omega)]; simp
theorem letAt_nat {l : List Nat} {i : Nat} : letAt l (i : Nat) = (l[i]?).any isL := by unfold letAt; rw [decide_eq_true (by omega)]; simp
theorem in_get {l : List Nat} {a : Int} (h0 : 0 ≤ a) (h1 : a < l.length) : ∃ c, l[a.toNat]? = some c ∧ atI l a = some c := by
  obtain ⟨n, rfl⟩ := Int.eq_ofNat_of_zero_le h0
  have hn : n < l.length := by omega
  exact ⟨l[n], by simp [hn], atI_nat (List.getElem?_eq_getElem hn)⟩
theorem letAt_of {l : List Nat} {a : Int} {c : Nat} (h0 : 0 ≤ a) (h : l[a.toNat]? = some c) : letAt l a = isL c := by
  unfold letAt; rw [h, decide_eq_true h0]; rfl
/-- over all that is no letter -/
def wBeg (l : List Nat) (a : Nat) : Nat := a + ((l.drop a).takeWhile fun c => !isL c).length
def wRun (l : List Nat) (a : Nat) : Nat := a + ((l.drop a).takeWhile isL).length
/-- the end of the word from a place on -/
def wEnd (l : List Nat) (a : Nat) : Nat := wRun l (wBeg l a)
def bSkip (l : List Nat) : Nat → Nat
  | 0 => 0
  | n + 1 => if letAt l (n : Nat) then n + 1 else bSkip l n
def bRun (l : List Nat) : Nat → Nat
  | 0 => 0
  | n + 1 => if letAt l (n : Nat) then bRun l n else n + 1
/-- the beginning of the word back from a place -/
def wStart (l : List Nat) (a : Nat) : Nat := bRun l (bSkip l a)
theorem drop_step {l : List Nat} {a : Nat} {p : Nat → Bool} (h : (l[a]?).any p = true) : ((l.drop a).takeWhile p).length = ((l.drop (a + 1)).takeWhile p).length + 1 := by
  obtain ⟨c, h1, h2⟩ := (Option.any_eq_true _ _).mp h
  rw [List.getElem?_eq_some_iff] at h1
  obtain ⟨hl, h1⟩ := h1
  rw [List.drop_eq_getElem_cons hl, h1, List.takeWhile_cons, if_pos h2, List.length_cons]
theorem drop_stop {l : List Nat} {a : Nat} {p : Nat → Bool} (h : (l[a]?).any p = false) : ((l.drop a).takeWhile p).length = 0 := by
  by_cases hl : a < l.length
  · rw [List.getElem?_eq_getElem hl] at h
    rw [List.drop_eq_getElem_cons hl, List.takeWhile_cons, if_neg]
    · rfl
    · have h' : p l[a] = false := h
      rw [h']; exact Bool.false_ne_true
  · rw [List.drop_of_length_le (by omega)]; rfl
theorem wRun_step {l : List Nat} {a : Nat} (h : letAt l (a : Nat) = true) : wRun l (a + 1) = wRun l a := by
  rw [letAt_nat] at h
  unfold wRun; rw [drop_step h]; omega
theorem wRun_stop {l : List Nat} {a : Nat} (h : letAt l (a : Nat) = false) : wRun l a = a := by
  rw [letAt_nat] at h
  unfold wRun; rw [drop_stop h]; rfl
theorem not_any {l : List Nat} {a : Nat} (hl : a < l.length) : (l[a]?).any (fun c => !isL c) = !(l[a]?).any isL := by
  rw [List.getElem?_eq_getElem hl]; rfl
theorem wBeg_step {l : List Nat} {a : Nat} (hl : a < l.length) (h : letAt l (a : Nat) = false) : wBeg l (a + 1) = wBeg l a := by
  rw [letAt_nat] at h
  unfold wBeg; rw [drop_step (a := a) (by rw [not_any hl, h]; rfl)]; omega
theorem wBeg_let {l : List Nat} {a : Nat} (h : letAt l (a : Nat) = true) : wBeg l a = a := by
  have hl : a < l.length := by
    by_cases hl : a < l.length
    · exact hl
    · rw [letAt_big (by omega)] at h; cases h
  rw [letAt_nat] at h
  unfold wBeg; rw [drop_stop (by rw [not_any hl, h]; rfl)]; rfl
theorem wBeg_end {l : List Nat} {a : Nat} (h : l.length ≤ a) : wBeg l a = a := by unfold wBeg; rw [List.drop_of_length_le h]; rfl
theorem wBeg_le {l : List Nat} {a : Nat} (h : a ≤ l.length) : a ≤ wBeg l a ∧ wBeg l a ≤ l.length := by
  unfold wBeg
  have := (List.takeWhile_prefix (l := l.drop a) fun c => !isL c).length_le
  rw [List.length_drop] at this
  omega
theorem wRun_le {l : List Nat} {a : Nat} (h : a ≤ l.length) : a ≤ wRun l a ∧ wRun l a ≤ l.length := by
  unfold wRun
  have := (List.takeWhile_prefix (l := l.drop a) isL).length_le
  rw [List.length_drop] at this
  omega
theorem wEnd_le {l : List Nat} {a : Nat} (h : a ≤ l.length) : wBeg l a ≤ wEnd l a ∧ wEnd l a ≤ l.length := wRun_le (wBeg_le h).2
theorem wBeg_non {l : List Nat} {a : Nat} (h : a ≤ l.length) : ∀ j, a ≤ j → j < wBeg l a → letAt l (j : Nat) = false := by
  generalize hm : l.length - a = m
  induction m generalizing a with
  | zero =>
    intro j h1 h2
    rw [wBeg_end (by omega)] at h2
    omega
  | succ m ih =>
    intro j h1 h2
    cases q : letAt l (a : Nat) with
    | true => rw [wBeg_let q] at h2; omega
    | false =>
      rw [← wBeg_step (by omega) q] at h2
      by_cases e : j = a
      · rw [e]; exact q
      · exact ih (by omega) (by omega) j (by omega) h2
theorem wBeg_yes {l : List Nat} {a : Nat} (h : a ≤ l.length) (h2 : wBeg l a < l.length) : letAt l (wBeg l a : Nat) = true := by
  generalize hm : l.length - a = m
  induction m generalizing a with
  | zero => rw [wBeg_end (by omega)] at h2; omega
  | succ m ih =>
    cases q : letAt l (a : Nat) with
    | true => rw [wBeg_let q]; exact q
    | false =>
      rw [← wBeg_step (by omega) q] at h2 ⊢
      exact ih (by omega) h2 (by omega)
theorem wRun_yes {l : List Nat} {a : Nat} (h : a ≤ l.length) : ∀ j, a ≤ j → j < wRun l a → letAt l (j : Nat) = true := by
  generalize hm : l.length - a = m
  induction m generalizing a with
  | zero =>
    intro j h1 h2
    have := (wRun_le h).2
    omega
  | succ m ih =>
    intro j h1 h2
    cases q : letAt l (a : Nat) with
    | false => rw [wRun_stop q] at h2; omega
    | true =>
      rw [← wRun_step q] at h2
      by_cases e : j = a
      · rw [e]; exact q
      · exact ih (by omega) (by omega) j (by omega) h2
theorem wRun_non {l : List Nat} {a : Nat} (h : a ≤ l.length) : letAt l (wRun l a : Nat) = false := by
  generalize hm : l.length - a = m
  induction m generalizing a with
  | zero => exact letAt_big (by have := (wRun_le h).1; omega)
  | succ m ih =>
    cases q : letAt l (a : Nat) with
    | false => rw [wRun_stop q]; exact q
    | true => rw [← wRun_step q]; exact ih (by omega) (by omega)
/-- the word's end is the first place behind with a letter ahead and none at it, or the text's end -/
theorem wEnd_in {l : List Nat} {a : Nat} (h : a ≤ l.length) : wEnd l a = l.length ∨ (a < wEnd l a ∧ wEnd l a ≤ l.length ∧ letAt l ((wEnd l a : Nat) - 1 : Int) = true ∧ letAt l (wEnd l a : Nat) = false) := by
  obtain ⟨b1, b2⟩ := wBeg_le h
  obtain ⟨e1, e2⟩ := wEnd_le h
  by_cases q : wEnd l a = l.length
  · exact .inl q
  · have hs := wBeg_yes h (by omega)
    have hn : letAt l (wEnd l a : Nat) = false := wRun_non b2
    have hne : wBeg l a ≠ wEnd l a := fun z => by rw [z, hn] at hs; cases hs
    refine .inr ⟨by omega, e2, ?_, hn⟩
    rw [show ((wEnd l a : Nat) - 1 : Int) = ((wEnd l a - 1 : Nat) : Int) by omega]
    exact wRun_yes b2 _ (by omega) (by show _ < wEnd l a; omega)
theorem wEnd_min {l : List Nat} {a k : Nat} (h : a ≤ l.length) (hk : a < k) (h1 : letAt l ((k : Nat) - 1 : Int) = true) (h2 : letAt l (k : Nat) = false) : wEnd l a ≤ k := by
  obtain ⟨b1, b2⟩ := wBeg_le h
  rw [show ((k : Nat) - 1 : Int) = ((k - 1 : Nat) : Int) by omega] at h1
  by_cases q : wEnd l a ≤ k
  · exact q
  · exfalso
    have : ¬ k - 1 < wBeg l a := fun z => by rw [wBeg_non h (k - 1) (by omega) z] at h1; cases h1
    have := wRun_yes b2 k (by omega) (by show k < wEnd l a; omega)
    rw [h2] at this; cases this
theorem bSkip_le {l : List Nat} : ∀ {a : Nat}, bSkip l a ≤ a
  | 0 => Nat.le_refl _
  | n + 1 => by
    unfold bSkip; split
    · exact Nat.le_refl _
    · exact Nat.le_succ_of_le bSkip_le
theorem bRun_le {l : List Nat} : ∀ {a : Nat}, bRun l a ≤ a
  | 0 => Nat.le_refl _
  | n + 1 => by
    unfold bRun; split
    · exact Nat.le_succ_of_le bRun_le
    · exact Nat.le_refl _
theorem bSkip_non {l : List Nat} : ∀ {a j : Nat}, bSkip l a ≤ j → j < a → letAt l (j : Nat) = false
  | 0, j, _, h => by omega
  | n + 1, j, h1, h2 => by
    unfold bSkip at h1
    split at h1
    · omega
    · rename_i q
      by_cases e : j = n
      · rw [e]; simpa using q
      · exact bSkip_non h1 (by omega)
theorem bSkip_yes {l : List Nat} : ∀ {a : Nat}, 0 < bSkip l a → letAt l ((bSkip l a : Nat) - 1 : Int) = true
  | 0, h => by unfold bSkip at h; omega
  | n + 1, h => by
    unfold bSkip at h ⊢
    split
    · rename_i q
      rw [show ((n + 1 : Nat) - 1 : Int) = (n : Nat) by omega]; exact q
    · rename_i q
      rw [if_neg q] at h
      exact bSkip_yes h
theorem bRun_yes {l : List Nat} : ∀ {a j : Nat}, bRun l a ≤ j → j < a → letAt l (j : Nat) = true
  | 0, j, _, h => by omega
  | n + 1, j, h1, h2 => by
    unfold bRun at h1
    split at h1
    · rename_i q
      by_cases e : j = n
      · rw [e]; exact q
      · exact bRun_yes h1 (by omega)
    · omega
theorem bRun_non {l : List Nat} : ∀ {a : Nat}, letAt l ((bRun l a : Nat) - 1 : Int) = false
  | 0 => letAt_neg (by unfold bRun; omega)
  | n + 1 => by
    unfold bRun
    split
    · exact bRun_non
    · rename_i q
      rw [show ((n + 1 : Nat) - 1 : Int) = (n : Nat) by omega]; simpa using q
theorem wStart_le {l : List Nat} {a : Nat} : wStart l a ≤ a := Nat.le_trans bRun_le bSkip_le
/-- the word's start is the last place ahead with a letter at it and none ahead of it, or 0 -/
theorem wStart_in {l : List Nat} {a : Nat} : wStart l a = 0 ∨ (wStart l a < a ∧ letAt l (wStart l a : Nat) = true ∧ letAt l ((wStart l a : Nat) - 1 : Int) = false) := by
  by_cases q : wStart l a = 0
  · exact .inl q
  · have h1 : bRun l (bSkip l a) ≠ 0 := q
    have h2 := bRun_le (l := l) (a := bSkip l a)
    have h3 := bSkip_le (l := l) (a := a)
    have hy := bSkip_yes (l := l) (a := a) (by omega)
    have hn := bRun_non (l := l) (a := bSkip l a)
    have hne : bRun l (bSkip l a) ≠ bSkip l a := fun z => by rw [z, hy] at hn; cases hn
    exact .inr ⟨by show bRun l (bSkip l a) < a; omega, bRun_yes (Nat.le_refl _) (by show bRun l (bSkip l a) < _; omega), hn⟩
theorem wStart_max {l : List Nat} {a k : Nat} (hk : k < a) (h1 : letAt l (k : Nat) = true) (h2 : letAt l ((k : Nat) - 1 : Int) = false) : k ≤ wStart l a := by
  by_cases q : k ≤ wStart l a
  · exact q
  · exfalso
    have : k < bSkip l a := by
      by_cases z : k < bSkip l a
      · exact z
      · rw [bSkip_non (by omega) hk] at h1; cases h1
    have := bRun_yes (l := l) (a := bSkip l a) (j := k - 1) (by show wStart l a ≤ k - 1; omega) (by omega)
    rw [show ((k : Nat) - 1 : Int) = ((k - 1 : Nat) : Int) by omega, this] at h2
    cases h2
theorem bSkip_step {l : List Nat} {n : Nat} (h : letAt l (n : Nat) = false) : bSkip l (n + 1) = bSkip l n := by
  rw [bSkip, if_neg]; rw [h]; exact Bool.false_ne_true
theorem bSkip_let {l : List Nat} {n : Nat} (h : letAt l (n : Nat) = true) : bSkip l (n + 1) = n + 1 := by rw [bSkip, if_pos h]
theorem bRun_step {l : List Nat} {n : Nat} (h : letAt l (n : Nat) = true) : bRun l (n + 1) = bRun l n := by rw [bRun, if_pos h]
theorem bRun_stop {l : List Nat} {n : Nat} (h : letAt l ((n : Nat) - 1 : Int) = false) : bRun l n = n := by
  cases n with
  | zero => rfl
  | succ n =>
    rw [bRun, if_neg]
    rw [show ((n + 1 : Nat) - 1 : Int) = (n : Nat) by omega] at h
    rw [h]; exact Bool.false_ne_true
/-! ### recased -/
def cas (way : Str) (l : List Nat) : List Nat := if way = "great" then l.map upc else if way = "small" then l.map loc else (l.take 1).map upc ++ (l.drop 1).map loc
def recL (way : Str) (l : List Nat) (a : Nat) : List Nat := l.take (wBeg l a) ++ cas way ((l.drop (wBeg l a)).take (wEnd l a - wBeg l a)) ++ l.drop (wEnd l a)
theorem len_cas {way : Str} {l : List Nat} : (cas way l).length = l.length := by
  unfold cas
  split
  · simp
  · split
    · simp
    · simp; omega
theorem len_recL {way : Str} {l : List Nat} {a : Nat} (h : a ≤ l.length) : (recL way l a).length = l.length := by
  unfold recL
  have := wBeg_le h
  have := wEnd_le h
  rw [List.length_append, List.length_append, len_cas]
  simp only [List.length_take, List.length_drop]
  omega
theorem cas_at {way : Str} {l : List Nat} {k : Nat} : (cas way l)[k]? = (l[k]?).map fun c => if way = "great" ∨ (¬ way = "small" ∧ k = 0) then upc c else loc c := by
  unfold cas
  by_cases h1 : way = "great"
  · rw [if_pos h1, List.getElem?_map]; simp [h1]
  · rw [if_neg h1]
    by_cases h2 : way = "small"
    · rw [if_pos h2, List.getElem?_map]
      cases l[k]? with
      | none => rfl
      | some c => show some _ = some _; dsimp only; rw [if_neg]; rintro (z | z); exact h1 z; exact z.1 h2
    · rw [if_neg h2]
      cases l with
      | nil => simp
      | cons c r =>
        cases k with
        | zero => simp [h1, h2]
        | succ k => simp [h1]
theorem recL_at {way : Str} {l : List Nat} {a k : Nat} (h : a ≤ l.length) : (recL way l a)[k]? = (l[k]?).map fun c => if wBeg l a ≤ k ∧ k < wEnd l a then (if way = "great" ∨ (¬ way = "small" ∧ k = wBeg l a) then upc c else loc c) else c := by
  obtain ⟨b1, b2⟩ := wBeg_le h
  obtain ⟨e1, e2⟩ := wEnd_le h
  unfold recL
  generalize wBeg l a = s at *
  generalize wEnd l a = e at *
  have lt : (l.take s).length = s := by rw [List.length_take]; omega
  have lc : (cas way ((l.drop s).take (e - s))).length = e - s := by rw [len_cas, List.length_take, List.length_drop]; omega
  by_cases k1 : k < s
  · rw [List.append_assoc, List.getElem?_append_left (by omega), List.getElem?_take_of_lt k1]
    cases l[k]? with
    | none => rfl
    | some c => show some c = some _; dsimp only; rw [if_neg (by omega)]
  · by_cases k2 : k < e
    · rw [List.getElem?_append_left (by rw [List.length_append]; omega), List.getElem?_append_right (by omega), lt, cas_at, List.getElem?_take_of_lt (by omega), List.getElem?_drop, show s + (k - s) = k by omega]
      cases l[k]? with
      | none => rfl
      | some c =>
        show some _ = some _
        dsimp only
        rw [if_pos (show s ≤ k ∧ k < e by omega)]
        have : (k - s = 0) = (k = s) := by apply propext; omega
        simp only [this]
    · rw [List.getElem?_append_right (by rw [List.length_append]; omega), List.length_append, lt, lc, List.getElem?_drop, show e + (k - (s + (e - s))) = k by omega]
      cases l[k]? with
      | none => rfl
      | some c => show some c = some _; dsimp only; rw [if_neg (by omega)]
theorem any_of_let {l : List Nat} {k c : Nat} (h : letAt l (k : Nat) = true) (hc : l[k]? = some c) : isL c = true := by
  rw [letAt_nat, hc] at h; exact h
theorem recL_ok {way : Str} {l : List Nat} {a : Nat} (h : a ≤ l.length) (hl : l.all okc = true) : (recL way l a).all okc = true := by
  rw [List.all_eq_true] at hl ⊢
  intro c hc
  obtain ⟨k, hk⟩ := List.mem_iff_getElem?.mp hc
  rw [recL_at h] at hk
  cases q : l[k]? with
  | none => rw [q] at hk; cases hk
  | some d =>
    rw [q] at hk
    have hk' := Option.some.inj hk
    rw [← hk']
    split
    · rename_i g
      have := upc_ok (any_of_let (wRun_yes (wBeg_le h).2 k g.1 g.2) q)
      split
      · exact this.1
      · exact this.2
    · exact hl d (List.mem_of_getElem? q)
theorem plain_all {x : Str} (h : (tl x).all okc = true) : plainS x = true := by
  unfold plainS
  rw [List.all_eq_true] at h ⊢
  exact fun c hc => decide_eq_true (okc_lt (h c hc))
theorem okText_all {x : Str} (h : okText x = true) : (tl x).all okc = true := by
  unfold okText at h
  exact (Bool.and_eq_true_iff.mp h).2
theorem okText_len {x : Str} (h : okText x = true) : x.length ≤ 400 := by
  unfold okText at h
  exact of_decide_eq_true (Bool.and_eq_true_iff.mp h).1
theorem okText_of {x : Str} (h : (tl x).all okc = true) (hl : x.length ≤ 400) : okText x = true := by
  unfold okText
  rw [h, decide_eq_true hl]; rfl

/-! ### sets of texts: what they hold, in whatever order; sorted(set(..)) -/
abbrev row0 (b : Bool) : Obj := { cls := .type "set", dict := none, data := .set #[] 0 (.fresh 0 0 b) }
def txOf (e : Int × Value) : Str := match e.2 with
  | .str x _ => x
  | _ => ""
def TxE (w : World) (e : Int × Value) : Prop := ∃ x tk, e.2 = Value.str x tk ∧ e.1 = hashStr w x
/-- the entries of a set of texts xs, its table walkable -/
structure TxRows (w : World) (es : Array (Int × Value)) (t : SetTable) (xs : List Str) : Prop where
  good : ∀ e ∈ es.toList, TxE w e
  keys : (es.toList.map txOf).Perm xs
  few : es.size < scanBound
  fits : t.fits es.size = true
  ris : Ris t.place.toList
  led : w.params.followText "set-order" = true ∨ t.led = true
def TxSet (w : World) (h : Heap) (a : Addr) (xs : List Str) : Prop := ∃ o es ep t, h.get? a = some o ∧ o.ExactSet ∧ o.data = .set es ep t ∧ TxRows w es t xs
theorem TxSet.at {w : World} {h h' : Heap} {a : Addr} {xs : List Str} (R : TxSet w h a xs) (k : ∀ o, h.get? a = some o → h'.get? a = some o) : TxSet w h' a xs := let ⟨o, es, ep, t, ho, r⟩ := R; ⟨o, es, ep, t, k o ho, r⟩
theorem txset_new {w : World} {h : Heap} {a : Addr} (ho : h.get? a = some (row0 (!w.params.followText "set-order"))) : TxSet w h a [] := by
  refine ⟨_, #[], 0, _, ho, ⟨rfl, rfl, rfl⟩, rfl, fun e he => (by simp at he), .refl _, by decide, rfl, List.Pairwise.nil, ?_⟩
  show _ ∨ (!w.params.followText "set-order") = true
  cases w.params.followText "set-order"
  · exact .inr rfl
  · exact .inl rfl
section
variable {P : Program} {w : World} {A : Around} {E : Value → Shared → Prop} {s : Shared} {a : Addr} {xs : List Str}
theorem TxRows.elems {es : Array (Int × Value)} {t : SetTable} (R : TxRows w es t xs) : ElemsOf (PySem.strKind P w) es.toList := fun e he => by
  obtain ⟨x, tk, e1, e2⟩ := R.good e he
  exact ⟨⟨x, by rw [e1]; exact strKind_is P w x tk, e2⟩, by rw [e1]; rfl⟩
theorem tx_is {e : Int × Value} (g : TxE w e) (x : Str) : (PySem.strKind P w).is x e.2 = true ↔ txOf e = x := by
  obtain ⟨y, tk, e1, _⟩ := g
  unfold txOf
  rw [e1]
  constructor
  · intro h
    obtain ⟨t, ht⟩ := Value.isStrOf_shape (show Value.isStrOf x (Value.str y tk) = true from h)
    injection ht
  · rintro rfl
    exact strKind_is P w y tk
/-- what was stored is a set again, the table laid anew or not -/
theorem tx_tail {g : Bool → Sem Unit} (hg : ∀ (b : Bool) (s1 : Shared) (Q1 : Unit → Shared → Prop), Q1 () s1 → wpAny (model P w) A (g b) Q1 E s1) {o : Obj} {es es1 : Array (Int × Value)} {ep : Nat} {t t1 : SetTable}
    (ho : s.heap.get? a = some o) (hx : o.ExactSet) (hd : o.data = .set es ep t) (T : TxRows w es1 t1 xs) {old : Bool} {R : Option Bool → Shared → Prop} (hR : ∀ h', Heap.SameBut a s.heap h' → TxSet w h' a xs → R (some true) { s with heap := h' }) :
    wpAny (model P w) A (storeSet a es1 t1 >>= fun _ => if (!old && t1.tooFull) = true then (g (relayAll t1 es1 (SetTable.grown es1.size)).2.2 >>= fun _ => storeSet a (relayAll t1 es1 (SetTable.grown es1.size)).1 (relayAll t1 es1 (SetTable.grown es1.size)).2.1 >>= fun _ => pure (some true)) else pure (some true)) R E s := by
  have q1 := store_at (es' := es1) (t' := t1) ho hd
  have b1 := Heap.SameBut.update s.heap a (Obj.putSet es1 t1)
  refine wpAny_bind (wpAny_storeSet_of ho hd ?_ (fits_of_scanBound T.few))
  by_cases c : (!old && t1.tooFull) = true
  · rw [if_pos c]
    have pm := relayAll_perm t1 es1 (SetTable.grown es1.size)
    have ff := relayAll_fits t1 es1 (SetTable.grown es1.size)
    have rr := relayAll_ris t1 es1 (SetTable.grown es1.size)
    have ll := relayAll_led t1 es1 (SetTable.grown es1.size)
    generalize relayAll t1 es1 (SetTable.grown es1.size) = Z at pm ff rr ll ⊢
    obtain ⟨es2, t2, gv⟩ := Z
    dsimp only at pm ff rr ll ⊢
    have sz : es2.size = es1.size := by rw [← Array.length_toList, pm.length_eq, Array.length_toList]
    have few2 : es2.size < scanBound := by rw [sz]; exact T.few
    refine wpAny_bind (hg _ _ _ (wpAny_bind (wpAny_storeSet_of q1 rfl (wpAny_pure (hR _ (b1.trans (Heap.SameBut.update _ a _)) ?_)) (fits_of_scanBound few2))))
    exact ⟨_, es2, _, t2, store_at (es' := es2) (t' := t2) q1 rfl, hx, rfl, fun e he => T.good e (pm.mem_iff.mp he), (pm.map txOf).trans T.keys, few2, ff, rr, T.led.imp id fun z => ll.trans z⟩
  · rw [if_neg c]
    exact wpAny_pure (hR _ b1 ⟨_, es1, _, t1, q1, hx, rfl, T⟩)
theorem tx_add {x : Str} {tk : Tok} {Q : Bool → Shared → Prop} (R : TxSet w s.heap a xs) (room : xs.length + 1 < scanBound) (hQ : ∀ b h', Heap.SameBut a s.heap h' → TxSet w h' a (if x ∈ xs then xs else x :: xs) → Q b { s with heap := h' }) : wpAny (model P w) A (setAddHashed a (.str x tk) ((PySem.strKind P w).hash x)) Q E s := by
  obtain ⟨o, es, ep, t, ho, hx, hd, T⟩ := R
  have is0 : (PySem.strKind P w).is x (.str x tk) = true := strKind_is P w x tk
  have el := T.elems (P := P)
  have memk : x ∈ xs ↔ ∃ e ∈ es.toList, (PySem.strKind P w).is x e.2 = true := by
    rw [← T.keys.mem_iff, List.mem_map]
    exact ⟨fun ⟨e, he, q⟩ => ⟨e, he, (tx_is (T.good e he) x).mpr q⟩, fun ⟨e, he, q⟩ => ⟨e, he, (tx_is (T.good e he) x).mp q⟩⟩
  unfold setAddHashed setAddHashedIn
  refine wpAny_holding (wpAny_bind (wpAny_setState_of ho hd T.fits ?_))
  dsimp only
  rw [byScan_of (knd := PySem.strKind P w) rfl T.few el]
  simp only [↓reduceIte]
  unfold setAddByScan
  refine wpAny_bind (wpAny_bind (wpAny_rule (wpAny_bind (wpAny_setScan_of is0 ho hd T.fits el ?_))))
  cases hfi : es.toList.findIdx? (fun e => (PySem.strKind P w).is x e.2) with
  | some j =>
    dsimp only
    obtain ⟨hj, pj, _⟩ := List.findIdx?_eq_some_iff_getElem.mp hfi
    have hm : x ∈ xs := memk.mpr ⟨_, List.getElem_mem hj, pj⟩
    have q := hQ false s.heap (Heap.SameBut.refl a s.heap)
    rw [if_pos hm] at q
    exact wpAny_pure (wpAny_pure (q ⟨o, es, ep, t, ho, hx, hd, T⟩))
  | none =>
    dsimp only
    have hm : x ∉ xs := fun z => by
      obtain ⟨e, he, q⟩ := memk.mp z
      have := List.findIdx?_eq_none_iff.mp hfi e he
      rw [q] at this; cases this
    rw [if_neg hm] at hQ
    have gv : ∀ (b : Bool) {s1 : Shared} {Q1 : Unit → Shared → Prop}, Q1 () s1 → wpAny (model P w) A (match b with | true => rule "set.scan.the-table-gave-way" | false => pure ()) Q1 E s1 := fun b s1 Q1 q => by
      cases b
      · exact wpAny_pure q
      · exact wpAny_rule q
    have pm := layNew_perm t es ((PySem.strKind P w).hash x) (.str x tk)
    have ff := layNew_fits t es ((PySem.strKind P w).hash x) (.str x tk)
    have rr := layNew_ris t es ((PySem.strKind P w).hash x) (.str x tk) T.ris
    have ll := layNew_led t es ((PySem.strKind P w).hash x) (.str x tk)
    generalize layNew t es ((PySem.strKind P w).hash x) (.str x tk) = Z at pm ff rr ll ⊢
    obtain ⟨es1, t1, old, gave⟩ := Z
    dsimp only at pm ff rr ll ⊢
    rw [Array.toList_push] at pm
    have pc := pm.trans (List.perm_append_singleton _ _)
    have sz : es1.size = es.size + 1 := by rw [← Array.length_toList, pc.length_eq, List.length_cons, Array.length_toList]
    have sz0 : es.size = xs.length := by rw [← T.keys.length_eq, List.length_map, Array.length_toList]
    have T1 : TxRows w es1 t1 (x :: xs) := by
      refine ⟨fun e he => ?_, (pc.map txOf).trans (List.Perm.cons _ T.keys), by omega, ff, rr, T.led.imp id fun z => ll.trans z⟩
      rcases List.mem_cons.mp (pc.mem_iff.mp he) with rfl | z
      · exact ⟨x, tk, rfl, rfl⟩
      · exact T.good e z
    refine wpAny_bind (gv _ ?_)
    split
    · refine wpAny_bind ?_
      rw [hashByValue_scannable 8 (x := .str x tk) rfl]
      refine wpAny_pure ?_
      refine tx_tail (fun b s1 Q1 q => by cases b <;> first | exact wpAny_pure q | exact wpAny_rule q) ho hx hd (xs := x :: xs) ?_ fun h' sb r => ?_
      · exact ⟨T1.good, T1.keys, T1.few, SetTable.fits_plain_off T1.fits, T1.ris, T1.led⟩
      · dsimp only; exact wpAny_pure (hQ _ h' sb r)
    · refine wpAny_bind (wpAny_pure ?_)
      simp only [↓reduceIte]
      refine tx_tail (fun b s1 Q1 q => by cases b <;> first | exact wpAny_pure q | exact wpAny_rule q) ho hx hd T1 fun h' sb r => ?_
      dsimp only; exact wpAny_pure (hQ _ h' sb r)
theorem strs_get : ∀ {us : List Value} {l : List Str}, StrsAre us l → ∀ {i : Nat} {v : Value}, us[i]? = some v → ∃ x tk, l[i]? = some x ∧ v = .str x tk
  | _, _, .nil, i, v, h => by cases h
  | _, _, .cons x t r, i, v, h => by
    cases i with
    | zero =>
      cases h
      exact ⟨x, t, rfl, rfl⟩
    | succ i => exact strs_get r h
/-- the members behind i items of a list -/
def mems : List Str → List Str
  | [] => []
  | x :: r => let m := mems r; if x ∈ m then m else x :: m
theorem mems_mem : ∀ {l : List Str} {x : Str}, x ∈ mems l ↔ x ∈ l
  | [], x => Iff.rfl
  | y :: r, x => by
    have ih : ∀ z, z ∈ mems r ↔ z ∈ r := fun z => mems_mem
    unfold mems
    by_cases h : y ∈ mems r
    · show x ∈ (if y ∈ mems r then mems r else y :: mems r) ↔ _
      rw [if_pos h, ih x, List.mem_cons]
      exact ⟨.inr, fun z => z.elim (fun e => e ▸ (ih y).mp h) id⟩
    · show x ∈ (if y ∈ mems r then mems r else y :: mems r) ↔ _
      rw [if_neg h, List.mem_cons, List.mem_cons, ih x]
theorem mems_nodup : ∀ (l : List Str), (mems l).Nodup
  | [] => List.nodup_nil
  | y :: r => by
    unfold mems
    by_cases h : y ∈ mems r
    · simp only [if_pos h]; exact mems_nodup r
    · simp only [if_neg h]; exact List.nodup_cons.mpr ⟨h, mems_nodup r⟩
theorem mems_len : ∀ (l : List Str), (mems l).length ≤ l.length
  | [] => Nat.le_refl _
  | y :: r => by
    have := mems_len r
    unfold mems
    by_cases h : y ∈ mems r
    · simp only [if_pos h, List.length_cons]; omega
    · simp only [if_neg h, List.length_cons]; omega
theorem mems_snoc {l : List Str} {i : Nat} {x : Str} (h : l[i]? = some x) : mems (l.take (i + 1)).reverse = if x ∈ mems (l.take i).reverse then mems (l.take i).reverse else x :: mems (l.take i).reverse := by
  rw [List.take_succ, h, Option.toList_some, List.reverse_append]
  rfl
theorem tx_loop {I : Addr} {fp wr : List Addr} {G : Array GenState → Array GenState → Prop} {n : Nat} {Pv : Nat → Value → Prop} {St : Nat → Shared → Prop} {R : Result → Shared → Prop} (W : WalksS P w A.in1 I fp wr G n Pv St)
    (nf : a ∉ fp) (l : List Str) (hn : n = l.length) (hb : l.length + 1 < scanBound) (hv : ∀ i v, Pv i v → ∃ x tk, l[i]? = some x ∧ v = .str x tk) : ∀ (m i : Nat) (s : Shared), n - i = m → i ≤ n → St i s → TxSet w s.heap a (mems (l.take i).reverse) →
      (∀ s', Moved (a :: wr) G s s' → TxSet w s'.heap a (mems l.reverse) → R (.ok (.ret .none)) s') → codeAny (model P w) A (.builtin "set.update.loop" ⟨[.ref a, .ref I], []⟩) R s := by
  have nw : a ∉ wr := fun h => nf (W.sub _ h)
  have sub : ∀ b ∈ wr, b ∈ a :: wr := fun b hb => List.mem_cons_of_mem _ hb
  intro m
  induction m with
  | zero =>
    intro i s e hi st T k
    have : i = n := by omega
    subst this
    refine codeAny_builtin F.entry_set_update_loop ?_
    rw [Around.under_plainId F.plain_set_update_loop _]
    show wpAny _ A.in1 (pyNext (.ref I) >>= _) _ _ s
    refine wpAny_bind (W.done s _ _ st fun s' mv => ?_)
    show wpAny _ A.in1 (ret Value.none) _ _ s'
    rw [List.take_of_length_le (by omega)] at T
    exact wpAny_pure (k s' (mv.mono sub) (T.at fun o e => mv.heap a o nw e))
  | succ m ih =>
    intro i s e hi st T k
    have lt : i < n := by omega
    refine codeAny_builtin F.entry_set_update_loop ?_
    rw [Around.under_plainId F.plain_set_update_loop _]
    show wpAny _ A.in1 (pyNext (.ref I) >>= _) _ _ s
    refine wpAny_bind (W.item i s _ _ lt st fun v s' pv st' mv => ?_)
    obtain ⟨x, tk, hx, rfl⟩ := hv i v pv
    have T' : TxSet w s'.heap a (mems (l.take i).reverse) := T.at fun o e => mv.heap a o nw e
    show wpAny _ A.in1 (holding [Value.str x tk] (setAdd a (.str x tk)) >>= _) _ _ s'
    refine wpAny_bind (wpAny_holding ?_)
    unfold setAdd
    refine wpAny_holding (wpAny_bind ((PySem.strKind P w).pyHash (k := x) (strKind_is _ _ _ _) ?_))
    have ml : (mems (l.take i).reverse).length ≤ l.length := by
      have := mems_len (l.take i).reverse
      rw [List.length_reverse, List.length_take] at this
      omega
    refine tx_add (s := { s' with toks := s'.toks + 1 }) T' (by omega) fun b h' sb T2 => ?_
    rw [← mems_snoc hx] at T2
    refine wpAny_pure ⟨plainId_quiet F.plain_set_update_loop _, ih (i + 1) _ (by omega) lt (W.frame _ s' _ _ st' (Nat.le_succ _) fun c hc o e => ?_) T2 fun s'' mv'' T3 => k s'' (Moved.trans W.gtrans ((mv.mono sub).then_heap (Nat.le_succ _) fun c o hc e => ?_) mv'') T3⟩
    · rw [sb.2 c (fun z : c = a => nf (by rw [← z]; exact hc))]; exact e
    · rw [sb.2 c (fun z : c = a => hc (by rw [z]; exact List.mem_cons_self))]; exact e
/-- set(l), l a list of texts -/
theorem tx_set {q : Addr} {items : Array Value} {l : List Str} {Q : Value → Shared → Prop} (hh : A.handled = none) (hl : s.heap.IsList q items) (hit : StrsAre items.toList l) (hb : l.length + 1 < scanBound)
    (k : ∀ (h' : Heap) (tk : Nat), TxSet w h' s.heap.objs.size (mems l.reverse) → (∀ b o, s.heap.get? b = some o → h'.get? b = some o) → Q (.ref s.heap.objs.size) { s with heap := h', toks := tk }) : wpAny (model P w) A (call (.type "set") [.ref q]) Q E s := by
  have isz : items.size = l.length := by
    have := hit.length
    rw [Array.length_toList] at this
    exact this
  obtain ⟨c, tl, hmro⟩ := F.called_set.mro
  have hmade := F.called_set.made
  have hsub := F.called_set.sub
  refine wpAny_call (codeAny_of_tree ?_)
  show wpAny _ _ (callAny (.type "set") _) _ _ _
  refine wpAny_pure ⟨Code.quiet_builtin _ (by decide +kernel), codeAny_builtin F.entry_type_call ?_⟩
  rw [Around.under_plain (weight_type_call_type "set" [.ref q] []) rfl]
  have n1 := F.called_set.notType
  have n2 := F.called_set.canCreate
  have n3 := F.typeCall_set_1 (.ref q)
  repeat (any_goals (first | assumption | wp_step))
  refine codeAny_mono (code_set_led1 (.ref q) (E := E) (Q₁ := fun obj z => obj = .ref s.heap.objs.size ∧ z = { s with heap := s.heap.push (row0 (!w.params.followText "set-order")) }) ⟨rfl, rfl⟩) fun r z hr => ?_
  cases r with
  | error e => exact hr
  | ok fl =>
    cases fl with
    | ret obj =>
      obtain ⟨rfl, rfl⟩ := hr
      have hS : (s.heap.push (row0 (!w.params.followText "set-order"))).get? s.heap.objs.size = some (row0 (!w.params.followText "set-order")) := Heap.get?_push_size _ rfl
      have hT : Shared.TypeIs { s with heap := s.heap.push (row0 (!w.params.followText "set-order")) } (.ref s.heap.objs.size) "set" := ⟨_, hS, rfl⟩
      have i1 := F.called_set.init.lookup
      have i2 := F.called_set.init.bind (.ref s.heap.objs.size)
      repeat (any_goals (first | assumption | wp_step))
      refine codeAny_mono (codeAny_call_builtin (R := wants (fun r z => r = .none ∧ ∃ h' tk, z = { s with heap := h', toks := tk } ∧ TxSet w h' s.heap.objs.size (mems l.reverse) ∧ ∀ b o, s.heap.get? b = some o → h'.get? b = some o) E) F.called_set.init.plain F.entry_set_init (check_set_init_1 hT ?_)) fun r2 z2 hr2 => ?_
      · obtain ⟨ol, hol, hcl, nl, hdl⟩ := hl
        obtain ⟨ocls, odict, odata, oslots⟩ := ol
        simp only at hcl hdl
        subst hcl hdl
        have hol2 : (s.heap.push (row0 (!w.params.followText "set-order"))).get? q = some { cls := .type "list", dict := odict, data := .seq items nl, slots := oslots } := Heap.get?_push_of_some _ hol
        have t1 := F.sub_list_set
        have t2 := F.sub_list_frozenset
        have t3 : (Value.type "list" == Value.type "dict") = false := by decide
        have hl1 : (s.heap.push (row0 (!w.params.followText "set-order"))).IsList q items := ⟨_, hol2, rfl, nl, rfl⟩
        unfold Builtin.«set.__init__» noKeywords Builtin.Frozenset.updateFrom
        generalize hPI : pyIter = PI
        wp_walk
        subst hPI
        refine wpAny_pyIter_list hl1 (wpAny_bind (wpAny_runValue ?_))
        have lt : q < s.heap.objs.size := Heap.lt_size hol
        have sz : (s.heap.push (row0 (!w.params.followText "set-order"))).objs.size = s.heap.objs.size + 1 := Heap.size_push ..
        have ne : q ≠ (s.heap.push (row0 (!w.params.followText "set-order"))).objs.size := by rw [sz]; exact Nat.ne_of_lt (Nat.lt_succ_of_lt lt)
        have nf : s.heap.objs.size ∉ [(s.heap.push (row0 (!w.params.followText "set-order"))).objs.size, q] := by
          rw [sz]
          simp only [List.mem_cons, List.not_mem_nil, or_false, not_or]
          exact ⟨Nat.ne_of_lt (Nat.lt_succ_self _), Nat.ne_of_gt lt⟩
        have hv : ∀ (i : Nat) (v : Value), items[i]? = some v → ∃ x tk, l[i]? = some x ∧ v = .str x tk := fun i v hv => by
          exact strs_get hit (by rw [Array.getElem?_toList]; exact hv)
        refine tx_loop ((Walks.list (by simp [hh]) _ q ne items).toS) nf l isz hb hv (items.size - 0) 0 _ (by omega) (Nat.zero_le _) ⟨⟨_, Heap.get?_push_size _ rfl, rfl, rfl⟩, hl1.push _⟩ (txset_new (Heap.get?_push_of_some _ hS)) fun s' mv T => ?_
        obtain ⟨h', g2, d', tk', os'⟩ := s'
        have eg : g2 = s.gens := mv.gens
        have ed : d' = s.drawn := mv.drawn
        have eo : os' = s.os := mv.os
        subst eg ed eo
        show wpAny _ _ _ _ _ _
        refine wpAny_pure ?_
        show wpAny _ _ (ret Value.none) _ _ _
        refine wpAny_pure ⟨rfl, h', tk', rfl, T, fun b o e => ?_⟩
        have b0 : b < s.heap.objs.size := Heap.lt_size e
        refine mv.heap b o (fun hb' => ?_) (Heap.get?_push_of_some _ (Heap.get?_push_of_some _ e))
        rcases List.mem_cons.mp hb' with z | z
        · exact absurd b0 (by rw [z]; exact Nat.lt_irrefl _)
        · exact absurd b0 (by rw [List.mem_singleton.mp z, sz]; exact Nat.not_lt_of_le (Nat.le_succ _))
      · cases r2 with
        | error e => exact hr2
        | ok f2 =>
          cases f2 with
          | ret r =>
            obtain ⟨rfl, h', tk, rfl, T, kp⟩ := hr2
            repeat (any_goals (first | assumption | wp_step))
            exact k _ _ T kp
          | _ => exact hr2.elim
    | _ => exact hr.elim
theorem strs_by : ∀ (vs : List Value), (∀ v ∈ vs, ∃ x tk, v = Value.str x tk) → StrsAre vs (vs.map fun v => txOf (0, v))
  | [], _ => .nil
  | v :: r, h => by
    obtain ⟨x, tk, rfl⟩ := h v List.mem_cons_self
    exact .cons x tk (strs_by r fun u hu => h u (List.mem_cons_of_mem _ hu))
/-- sorted(..) of a set of texts -/
theorem tx_sorted {Q : Value → Shared → Prop} (R : TxSet w s.heap a xs) (hh : A.handled = none) (few : xs.length < 64)
    (k : ∀ s' p (out : Array Value) (c : Nat) (ys : List Str), (∀ b o, s.heap.get? b = some o → s'.heap.get? b = some o) → s'.gens = s.gens → s'.os = s.os → s.heap.objs.size ≤ p → s'.heap.get? p = some (seqObj "list" out c) → StrsAre out.toList ys → ys.Perm xs → sortedS ys = true → Q (.ref p) s') :
    wpAny (model P w) A (call (.builtin "sorted") [.ref a]) Q E s := by
  obtain ⟨o, es, ep, t, ho, hx, hd, T⟩ := R
  refine Calls.call_function_entry kind_sorted plain_sorted entry_sorted (args_sorted1 _) ?_
  unfold Builtin.«sorted»
  refine wpAny_bind (m := checkCount "sorted" 1 1 _) (wpAny_pure (wpAny_bind (collect_set (A := A.in1) hh ⟨o, ho, hx.1, hd⟩ T.fits T.few T.ris T.led fun s1 vs kp sz g1 o1 pm => ?_)))
  have vl : vs.length = xs.length := by rw [pm.length_eq, List.length_map, ← T.keys.length_eq, List.length_map]
  have st : StrsAre vs (vs.map fun v => txOf (0, v)) := strs_by vs fun v hv => by
    obtain ⟨e, he, rfl⟩ := List.mem_map.mp (pm.mem_iff.mp hv)
    obtain ⟨x, tk, e1, _⟩ := T.good e he
    exact ⟨x, tk, e1⟩
  have pk : (vs.map fun v => txOf (0, v)).Perm xs := by
    refine (pm.map _).trans ?_
    rw [List.map_map]
    exact T.keys
  refine wpAny_bind (wpAny_newList ?_ (by rw [vl, sizeLine_eq]; omega))
  have at1 : (s1.heap.push (seqObj "list" vs.toArray 0)).get? s1.heap.objs.size = some (seqObj "list" vs.toArray 0) := Heap.get?_push_size _ rfl
  refine wpAny_bind (wpAny_holding (wpAny_call_entry slot_list_sort ⟨_, at1, rfl⟩ entry_list_sort (list_sort_treeK PyProof.Rows.strKind_oneLt at1 st.keysOf (fun v1 v2 rest e => keyKind_strs (by rw [← e]; exact st)) (by rw [vl]; exact few) fun st' hp hs => ⟨_, rfl, ?_⟩) (args_list_sort _)))
  obtain ⟨ys, y1, y2, y3⟩ := sorted_out_str st hp hs
  obtain ⟨c, hc⟩ := sortedHeap_at (vs := vs) (out := (arrOf st').map (·.2)) at1
  refine wpAny_pure ⟨_, rfl, k _ s1.heap.objs.size _ c ys (fun b u e => ?_) g1 o1 sz hc y1 (y2.trans pk) y3⟩
  have lt := Heap.lt_size (kp b u e)
  show (sortedHeap (s1.heap.push (seqObj "list" vs.toArray 0)) s1.heap.objs.size vs _).get? b = some u
  rw [sortedHeap_old (Nat.ne_of_lt lt) (by rw [size_push']; exact Nat.lt_succ_of_lt lt)]
  exact Heap.get?_push_of_some _ (kp b u e)
end
def tSortSet (K : PySem.W.Frag) (te : TE) : TE := fun σ H Q => te σ H fun v H1 => ∃ (l : Addr) (xs : List Str), v = .ref l ∧ SqL K H1 l (xs.map V.str) ∧ xs.length < 64 ∧ ∀ (p : Addr) (ys : List Str), H1 p = none → ys.Perm (mems xs.reverse) → sortedS ys = true → Q (.ref p) (upd H1 p (.lst (ys.map V.str)))
theorem strs_vals : ∀ {us : List Value} {ys : List Str}, StrsAre us ys → Vals (ys.map V.str) us
  | _, _, .nil => .nil
  | _, _, .cons x t r => .cons ⟨t, rfl⟩ (strs_vals r)
theorem vals_strs : ∀ {ys : List Str} {us : List Value}, Vals (ys.map V.str) us → StrsAre us ys
  | [], _, .nil => .nil
  | x :: r, _, .cons ⟨t, e⟩ h => by subst e; exact .cons x t (vals_strs h)
theorem pe_sortSet {X : Cx} {K : PySem.W.Frag} {e : Expr} {te : TE} {p p2 q pos : Pos} (hK : X.K = K) (hc : X.calm = true) (hm : X.mg "sorted" = none) (hm2 : X.mg "set" = none) (he : PE X e te) (hg : Gl X "sorted" := by rfl) (hg2 : Gl X "set" := by rfl)
    (na : starEach [e] X.env = (false, eval e X.env) :: starEach [] X.env := by rfl) : PE X (.Call (.Name "sorted" p) [.Call (.Name "set" p2) [e] [] q] [] pos) (tSortSet K te) := by
  subst hK
  refine ⟨fun pins s σ H Q I h => ?_⟩
  refine Call_ (ld_blt I hg hm (show bootBuiltins "sorted" = some (.builtin "sorted") by decide +kernel) ?_)
  refine PyProof.Rows.callWith_builtin1 (PyProof.Rows.args_cons ?_ rfl) rfl rfl
  refine Call_ (ld_blt I hg2 hm2 (show bootBuiltins "set" = some (.type "set") by decide +kernel) ?_)
  refine PyProof.Rows.callWith_type1 (PyProof.Rows.args_cons (thn (he.run pins s σ H _ I h) fun v s1 ⟨x, H1, I1, r1, q1⟩ => PyProof.Rows.args_nil ?_) na) na rfl
  obtain ⟨l, xs, rfl, hl, few, k⟩ := q1
  cases r1
  obtain ⟨its, rv, pl, _⟩ := I1.list hl
  refine tx_set (I1.ok.hd hc) pl.isList (by simpa using vals_strs rv) (by unfold scanBound; omega) fun h' tk T kp => PyProof.Rows.args_nil ?_
  have I2 : Inv X pins σ H1 { s1 with heap := h', toks := tk } := I1.kept fun b o e => kp b o e
  have ml : (mems xs.reverse).length < 64 := by
    have := mems_len xs.reverse
    rw [List.length_reverse] at this
    omega
  refine tx_sorted (s := { s1 with heap := h', toks := tk }) T (I2.ok.hd hc) ml fun s' b out c ys k1 g1 o1 hb hg hs hp hsr => ?_
  have yl : (ys.map V.str).length ≤ sizeLine := by rw [List.length_map, hp.length_eq, sizeLine_eq]; omega
  have hn : H1 b = none := I2.hok.fresh hb
  have J : Inv X pins σ (upd H1 b (.lst (ys.map V.str))) { { s1 with heap := h', toks := tk } with heap := s'.heap, gens := s'.gens, drawn := s'.drawn, toks := s'.toks } :=
    I2.call (ch := []) (Un.laid k1 hb hn) (I2.hok.laid k1 hb ⟨yl, out.toList, c, strs_vals hs, hg⟩) (by rw [g1]; exact I2.bare) (fun _ z => nomatch z)
  have es : s' = { { s1 with heap := h', toks := tk } with heap := s'.heap, gens := s'.gens, drawn := s'.drawn, toks := s'.toks } := by
    cases s'
    cases s1
    cases o1
    rfl
  rw [es]
  exact ⟨.ref b, _, J, rfl, k b ys hn hp hsr⟩

/-! ### texts in order -/
theorem lt_irr : ∀ (a : List Nat), ltCps a a = false
  | [] => rfl
  | x :: r => by simp [ltCps, lt_irr r]
theorem lt_tri : ∀ {a b : List Nat}, ltCps a b = false → ltCps b a = false → a = b
  | [], [], _, _ => rfl
  | [], _ :: _, h, _ => by simp [ltCps] at h
  | _ :: _, [], _, h => by simp [ltCps] at h
  | x :: r, y :: t, h1, h2 => by
    simp only [ltCps, Bool.or_eq_false_iff, Bool.and_eq_false_iff, decide_eq_false_iff_not, beq_eq_false_iff_ne] at h1 h2
    have e : x = y := by omega
    subst e
    rw [lt_tri (h1.2.resolve_left (by simp)) (h2.2.resolve_left (by simp))]
theorem le_tr : ∀ {a b c : List Nat}, ltCps b a = false → ltCps c b = false → ltCps c a = false
  | [], b, c, _, _ => by cases c <;> rfl
  | x :: r, [], c, h, _ => by simp [ltCps] at h
  | x :: r, y :: t, [], _, h => by simp [ltCps] at h
  | x :: r, y :: t, z :: u, h1, h2 => by
    simp only [ltCps, Bool.or_eq_false_iff, Bool.and_eq_false_iff, decide_eq_false_iff_not, beq_eq_false_iff_ne] at h1 h2 ⊢
    refine ⟨by omega, ?_⟩
    by_cases e : z = x
    · have e1 : y = x := by omega
      have e2 : z = y := by omega
      exact .inr (le_tr (h1.2.resolve_left (by simpa using e1)) (h2.2.resolve_left (by simpa using e2)))
    · exact .inl e
def leS (x y : Str) : Prop := ltCps (tl y) (tl x) = false
theorem rising_pw : ∀ {r : List Str} {x : Str}, risingS x r = true → (x :: r).Pairwise leS
  | [], x, _ => by simp
  | y :: r, x, h => by
    unfold risingS at h
    rw [Bool.and_eq_true] at h
    have hy : leS x y := by simpa [leS, tl] using h.1
    have ih := rising_pw h.2
    refine List.pairwise_cons.mpr ⟨fun z hz => ?_, ih⟩
    rcases List.mem_cons.mp hz with rfl | q
    · exact hy
    · exact le_tr hy ((List.pairwise_cons.mp ih).1 z q)
theorem sorted_pw {l : List Str} (h : sortedS l = true) : l.Pairwise leS := by
  cases l with
  | nil => exact List.Pairwise.nil
  | cons x r => exact rising_pw h
theorem leS_anti {x y : Str} (h : leS x y) (g : leS y x) : x = y := str_ext (lt_tri g h)
theorem pw_eq : ∀ {l m : List Str}, l.Pairwise leS → m.Pairwise leS → l.Perm m → l = m
  | [], m, _, _, p => by rw [List.nil_perm.mp p]
  | x :: r, m, h, g, p => by
    cases m with
    | nil => exact absurd p.length_eq (by simp)
    | cons y t =>
      have e : x = y := by
        rcases List.mem_cons.mp (p.mem_iff.mp List.mem_cons_self) with z | z
        · exact z
        · rcases List.mem_cons.mp (p.mem_iff.mpr (List.mem_cons_self (a := y) (l := t))) with q | q
          · exact q.symm
          · exact leS_anti ((List.pairwise_cons.mp h).1 y q) ((List.pairwise_cons.mp g).1 x z)
      subst e
      rw [pw_eq (List.pairwise_cons.mp h).2 (List.pairwise_cons.mp g).2 (List.Perm.cons_inv p)]
/-- the texts of xs, each once, in order -/
structure Srt (ys xs : List Str) : Prop where
  pw : ys.Pairwise leS
  nd : ys.Nodup
  mem : ∀ z, z ∈ ys ↔ z ∈ xs
theorem Srt.one {ys zs xs : List Str} (h : Srt ys xs) (g : Srt zs xs) : ys = zs := pw_eq h.pw g.pw ((List.perm_ext_iff_of_nodup h.nd g.nd).mpr fun z => (h.mem z).trans (g.mem z).symm)
theorem Srt.filter {ys xs : List Str} (h : Srt ys xs) (f : Str → Bool) : Srt (ys.filter f) (xs.filter f) := ⟨h.pw.sublist List.filter_sublist, h.nd.sublist List.filter_sublist, fun z => by rw [List.mem_filter, List.mem_filter, h.mem z]⟩
theorem Srt.of {ys xs : List Str} (p : ys.Perm (mems xs.reverse)) (s : sortedS ys = true) : Srt ys xs := ⟨sorted_pw s, p.nodup_iff.mpr (mems_nodup _), fun z => by rw [p.mem_iff, mems_mem, List.mem_reverse]⟩
theorem Srt.len {ys xs : List Str} (p : ys.Perm (mems xs.reverse)) : ys.length ≤ xs.length := by
  have := mems_len xs.reverse
  rw [List.length_reverse] at this
  rw [p.length_eq]; exact this
/-! ### what is to be filled in -/
def fStart (l : List Nat) : Nat → Nat
  | 0 => 0
  | n + 1 => if l[n]? = some 32 then n + 1 else fStart l n
theorem fStart_le {l : List Nat} : ∀ {a : Nat}, fStart l a ≤ a
  | 0 => Nat.le_refl _
  | n + 1 => by
    unfold fStart; split
    · exact Nat.le_refl _
    · exact Nat.le_succ_of_le fStart_le
theorem fStart_in {l : List Nat} : ∀ {a : Nat}, fStart l a = 0 ∨ ∃ k, k < a ∧ l[k]? = some 32 ∧ fStart l a = k + 1
  | 0 => .inl rfl
  | n + 1 => by
    unfold fStart; split
    · rename_i h; exact .inr ⟨n, by omega, h, rfl⟩
    · rcases fStart_in (l := l) (a := n) with z | ⟨k, k1, k2, k3⟩
      · exact .inl z
      · exact .inr ⟨k, by omega, k2, k3⟩
theorem fStart_max {l : List Nat} : ∀ {a k : Nat}, k < a → l[k]? = some 32 → k + 1 ≤ fStart l a
  | 0, k, h, _ => by omega
  | n + 1, k, h, g => by
    unfold fStart; split
    · omega
    · rename_i q
      have : k ≠ n := fun e => q (e ▸ g)
      exact fStart_max (by omega) g
theorem rfind_start {x : Str} {a : Nat} (h : a ≤ x.length) : Txt.rfindIn x " " 0 (a : Nat) + 1 = (fStart (tl x) a : Nat) := by
  have e1 : fromIndex x.length 0 = 0 := rfl
  have e2 : toIndexW x.length (a : Nat) = a := by unfold toIndexW; rw [if_neg (by omega)]; omega
  unfold Txt.rfindIn
  rw [e1, e2, StrLaws.last_eq]
  have key := StrLaws.last_run x " " a (List.range' 0 (a + 1 - 0)) [] none (fun _ z => nomatch z) (fun _ z => nomatch z) (by simpa using List.pairwise_lt_range' (s := 0) (n := a + 1 - 0))
  have at1 : ∀ i, StrLaws.At x " " a i ↔ (i < a ∧ (tl x)[i]? = some 32) := fun i => by
    have s1 := StrLaws.subAt_one x 32 i
    unfold StrLaws.At
    have l1 : (Str.ofString " ").length = 1 := rfl
    rw [l1]
    constructor
    · rintro ⟨h1, h2⟩
      exact ⟨by omega, s1.mp ⟨by show i + 1 ≤ _; omega, h2⟩⟩
    · rintro ⟨h1, h2⟩
      exact ⟨by omega, (s1.mpr h2).2⟩
  have mem : ∀ i, i < a → i ∈ [] ++ List.range' 0 (a + 1 - 0) := fun i hi => by simp [List.mem_range'] ; omega
  cases hr : (forIn (List.range' 0 (a + 1 - 0)) none (StrLaws.lastBody x " " a)).run with
  | none =>
    rw [hr] at key
    have : fStart (tl x) a = 0 := by
      rcases fStart_in (l := tl x) (a := a) with z | ⟨k, k1, k2, _⟩
      · exact z
      · exact absurd ((at1 k).mpr ⟨k1, k2⟩) (key k (mem k k1))
    rw [this]; rfl
  | some m =>
    rw [hr] at key
    obtain ⟨m1, m2⟩ := (at1 m).mp key.1
    have g1 := fStart_max m1 m2
    have : fStart (tl x) a = m + 1 := by
      rcases fStart_in (l := tl x) (a := a) with z | ⟨k, k1, k2, k3⟩
      · omega
      · by_cases q : m < k
        · exact absurd ((at1 k).mpr ⟨k1, k2⟩) (key.2 k (mem k k1) q)
        · omega
    rw [this]; rfl
theorem starts_eq (a b : Str) : Txt.startswith a b = decide ((tl a).take (tl b).length = tl b) := by
  unfold Txt.startswith
  rw [StrLaws.subAt_eq, List.drop_zero]
  have la := len_tl a
  have lb := len_tl b
  show (decide (0 + b.length ≤ a.length) && ((tl a).take b.length == tl b)) = _
  rw [lb]
  by_cases h : (tl a).take (tl b).length = tl b
  · have h1 := congrArg List.length h
    rw [List.length_take] at h1
    rw [h, decide_eq_true rfl, decide_eq_true (by omega)]; simp
  · rw [decide_eq_false h, beq_eq_false_iff_ne.mpr h, Bool.and_false]
/-! ### what all have in common -/
def wk (s0 : Str) (ws : List Str) (n : Nat) : Bool := ws.all fun w => decide ((tl w).take n = (tl s0).take n)
def lcpD (s0 : Str) (ws : List Str) : Nat → Nat
  | 0 => 0
  | n + 1 => if wk s0 ws (n + 1) then n + 1 else lcpD s0 ws n
theorem wk_zero {s0 : Str} {ws : List Str} : wk s0 ws 0 = true := by unfold wk; simp
theorem wk_down {s0 : Str} {ws : List Str} {n m : Nat} (h : wk s0 ws n = true) (hm : m ≤ n) : wk s0 ws m = true := by
  unfold wk at *
  rw [List.all_eq_true] at *
  intro w hw
  have := of_decide_eq_true (h w hw)
  apply decide_eq_true
  have e := congrArg (List.take m) this
  rw [List.take_take, List.take_take, Nat.min_eq_left hm] at e
  exact e
theorem lcpD_le {s0 : Str} {ws : List Str} : ∀ {n : Nat}, lcpD s0 ws n ≤ n
  | 0 => Nat.le_refl _
  | n + 1 => by
    unfold lcpD; split
    · exact Nat.le_refl _
    · exact Nat.le_succ_of_le lcpD_le
theorem lcpD_wk {s0 : Str} {ws : List Str} : ∀ {n : Nat}, wk s0 ws (lcpD s0 ws n) = true
  | 0 => wk_zero
  | n + 1 => by
    unfold lcpD; split
    · rename_i h; exact h
    · exact lcpD_wk
theorem lcpD_stop {s0 : Str} {ws : List Str} {n : Nat} (h : wk s0 ws n = true) : lcpD s0 ws n = n := by
  cases n with
  | zero => rfl
  | succ n => rw [lcpD, if_pos h]
theorem lcpD_step {s0 : Str} {ws : List Str} {n : Nat} (h : wk s0 ws (n + 1) = false) : lcpD s0 ws (n + 1) = lcpD s0 ws n := by
  rw [lcpD, if_neg]; rw [h]; exact Bool.false_ne_true
theorem lcpD_eq {s0 : Str} {ws : List Str} {N m : Nat} (h : wk s0 ws m = true) (hm : m ≤ N) (he : m = N ∨ wk s0 ws (m + 1) = false) : lcpD s0 ws N = m := by
  rcases he with rfl | he
  · exact lcpD_stop h
  · have hle := lcpD_le (s0 := s0) (ws := ws) (n := N)
    have hw := lcpD_wk (s0 := s0) (ws := ws) (n := N)
    have h1 : lcpD s0 ws N ≤ m := by
      by_cases q : lcpD s0 ws N ≤ m
      · exact q
      · rw [wk_down hw (m := m + 1) (by omega)] at he; cases he
    have h2 : m ≤ lcpD s0 ws N := by
      clear hle hw h1 he
      induction N with
      | zero => omega
      | succ N ih =>
        unfold lcpD; split
        · exact hm
        · rename_i q
          by_cases e : m = N + 1
          · exact absurd (e ▸ h) q
          · exact ih (by omega)
    omega
def fPart (x : Str) (a : Nat) : Str := S (((tl x).drop (fStart (tl x) a)).take (a - fStart (tl x) a))
def fFit (ws : List Str) (part : Str) : List Str := ws.filter fun w => Txt.startswith w part
def fCommon (ws : List Str) (part : Str) : Str := match ws with
  | [] => part
  | s0 :: r => S ((tl s0).take (lcpD s0 (s0 :: r) s0.length))
def wordOk (x : Str) : Bool := okText x && (!decide (x = "") && !decide (32 ∈ tl x))
def fillOk (xs : List Str) : Bool := decide (xs.length ≤ 200) && xs.all wordOk
def fillF (l : Addr) : List (Str × V) := [("words", .ref l)]
structure FillAt (K : PySem.W.Frag) (H : Hp) (p l : Addr) (ws : List Str) : Prop where
  ob : ∃ dx, H p = some (.ins (He.ga K "Filler") dx (fillF l))
  ls : H l = some (.lst (ws.map V.str))
theorem FillAt.same {K : PySem.W.Frag} {H H' : Hp} {p l : Addr} {ws : List Str} (R : FillAt K H p l ws) (h : Same H H') : FillAt K H' p l ws := ⟨let ⟨dx, e⟩ := R.ob; ⟨dx, h _ _ e⟩, h _ _ R.ls⟩
/-! ### a comprehension over a list, tests and items that leave the heap as it is -/
theorem filter_take_succ {α : Type} {xs : List α} {i : Nat} {x : α} {f : α → Bool} (h : xs[i]? = some x) : (xs.take (i + 1)).filter f = (xs.take i).filter f ++ (if f x = true then [x] else []) := by
  rw [List.take_succ, h, Option.toList_some, List.filter_append, List.filter_cons, List.filter_nil]
theorem lc_lstP {K : PySem.W.Frag} {σ : L2.St} {H1 : Hp} {te : TE} {tt : TT} {vs : List Nat} {D a : Addr} {Qd : Hp → Prop} {xs : List V} {j : Nat} (f : V → Bool) (v : V → V) (hL : SqL K H1 a xs) (hn : xs.length < 1000000) (hw : ∀ v, wipe ((wipe σ vs).set j (some v)) vs = wipe σ vs) (hD : H1 D = none)
    (ht : ∀ x ∈ xs, ∀ (H2 : Hp) (Q2 : Bool → Hp → Prop), Same H1 H2 → Q2 (f x) H2 → tt ((wipe σ vs).set j (some x)) H2 Q2)
    (he : ∀ x ∈ xs, ∀ (H2 : Hp) (Q2 : VK), f x = true → Same H1 H2 → Q2 (v x) H2 → te ((wipe σ vs).set j (some x)) H2 Q2)
    (hd : Qd (upd H1 D (.lst ((xs.filter f).map v)))) : LcGo (Itl K a) (gName j) tt te vs σ D H1 Qd := by
  refine lg_list (K := K) (xs := xs) (fun i H2 => H2 = upd H1 D (.lst (((xs.take i).filter f).map v))) rfl (fun i H2 _ e => ?_) ?_ (fun H e => by rw [e, List.take_length]; exact hd)
  · rw [e]; exact Evl.ex_l (Same.own (Same.refl _) hD) hL
  rintro i x H2 hx rfl
  have sm : Same H1 (upd H1 D (.lst (((xs.take i).filter f).map v))) := Same.own (Same.refl _) hD
  have hm := List.mem_of_getElem? hx
  refine ⟨hw _, ht x hm _ _ sm ?_⟩
  refine ite_b (fun h => ?_) (fun h => ?_)
  · refine he x hm _ _ h sm ⟨_, upd_same, ?_, ?_⟩
    · rw [List.length_map, sizeLine_eq]
      have := List.length_filter_le f (xs.take i)
      rw [List.length_take] at this
      omega
    · rw [upd_upd, filter_take_succ hx, if_pos h, List.map_append]; rfl
  · rw [filter_take_succ hx, if_neg (by rw [h]; exact Bool.false_ne_true), List.append_nil]
theorem z_sortSet {σ : L2.St} {H : Hp} {Q : VK} {K : PySem.W.Frag} {te : TE} (q : te σ H fun v H1 => ∃ (l : Addr) (xs : List Str), v = .ref l ∧ SqL K H1 l (xs.map V.str) ∧ xs.length < 64 ∧ ∀ (p : Addr) (ys : List Str), H1 p = none → ys.Perm (mems xs.reverse) → sortedS ys = true → Q (.ref p) (upd H1 p (.lst (ys.map V.str)))) : tSortSet K te σ H Q := q
mutual
theorem dp_same0 {K : PySem.W.Frag} {H H' : Hp} (s : Same H H') : ∀ (d : PyData) (x : V), Dp K H x d → Dp K H' x d
  | .none, _, h => by cases h; constructor
  | .bool _, _, h => by cases h; constructor
  | .int _, _, h => by cases h; constructor
  | .str _, _, h => by cases h; constructor
  | .dict _, _, h => by cases h
  | .list ds, _, h => by
    cases h with
    | lst a b => exact .lst (Evl.ex_l s a) (dpAll_same0 s ds _ b)
  | .tuple ds, _, h => by
    cases h with
    | tup a b => exact .tup (Evl.ex_t s a) (dpAll_same0 s ds _ b)
theorem dpAll_same0 {K : PySem.W.Frag} {H H' : Hp} (s : Same H H') : ∀ (ds : List PyData) (xs : List V), DpAll K H xs ds → DpAll K H' xs ds
  | [], _, h => by cases h; exact .nil
  | d :: ds, _, h => by
    cases h with
    | cons a b => exact .cons (dp_same0 s d _ a) (dpAll_same0 s ds _ b)
end
theorem dp_same {K : PySem.W.Frag} {H H' : Hp} {x : V} {d : PyData} (h : Dp K H x d) (s : Same H H') : Dp K H' x d := dp_same0 s d x h
theorem dpAll_snoc {K : PySem.W.Frag} {H : Hp} {v : V} {d : PyData} : ∀ {xs : List V} {ds : List PyData}, DpAll K H xs ds → Dp K H v d → DpAll K H (xs ++ [v]) (ds ++ [d])
  | [], _, h, g => by cases h; exact .cons g .nil
  | x :: xs, _, h, g => by
    cases h with
    | cons a b => exact .cons a (dpAll_snoc b g)

local macro_rules
  | `(tactic| walk_at "ne") => `(tactic| first | assumption | exact Ne.symm (by assumption) | exact ne_of_none (by assumption) (by assumption) | exact Ne.symm (ne_of_none (by assumption) (by assumption)) | exact ne_of (by assumption) (by assumption) (by intro z; cases z))
local macro_rules
  | `(tactic| walk_at "h1") => `(tactic| first | ((with_reducible refine upd_new ?_ ?_); (focus assumption)) | ((with_reducible refine Eq.trans (upd_ne ?_) ?_); (focus walk_at "ne")) | ((with_reducible refine upd_kd ?_ ?_); (focus (refine' ⟨_, ?_, ?_⟩; rotate_left; (focus walk_at "h"); (focus exact rfl)))))
local macro_rules
  | `(tactic| walk_at "h") => `(tactic| first | assumption | exact upd_same | (walk_at "h1"; walk_at "h"))
local macro_rules
  | `(tactic| walk_at "sq") => `(tactic| first | assumption | exact SqL.of (by walk_at "h") | exact SqT.of (by walk_at "h"))
local macro_rules
  | `(tactic| walk_at "sz") => `(tactic| first | assumption | (simp only [sizeLine_eq, len_app, List.length_append, List.length_cons, List.length_nil, List.length_map, Nat.zero_add]; omega) | decide)
local macro_rules
  | `(tactic| walk_at "mem") => `(tactic| first | exact List.mem_cons_self | (apply List.mem_cons_of_mem; walk_at "mem"))
local macro_rules
  | `(tactic| walk_at "fr") => `(tactic| first | exact Fr.refl | assumption | exact Fr.same (by assumption) | (refine Fr.upd ?_ ?hm; (case hm => walk_at "mem"); walk_at "fr") | (refine Fr.new ?_ ?hm; (case hm => assumption); walk_at "fr") | (refine Fr.own ?_ ?hm; (case hm => assumption); walk_at "fr"))
local macro_rules
  | `(tactic| walk_at "sa") => `(tactic| first | exact Same.refl _ | assumption | (refine Same.new ?_ ?hm; (case hm => assumption); walk_at "sa") | (refine Same.own ?_ ?hm; (case hm => assumption); walk_at "sa"))
local macro_rules
  | `(tactic| walk_at "fl") => `(tactic| exact fl_of rfl)
local macro_rules
  | `(tactic| walk_at "dg") => `(tactic| first | assumption | exact dg_same | (refine dg_ne ?hne ?_; (case hne => first | exact rfl | decide); walk_at "dg"))
local macro_rules
  | `(tactic| walk_at "ex") => `(tactic| first | exact ex_refl | assumption | (refine Ex.put ?_ ?hm; (case hm => decide); walk_at "ex"))
local macro_rules
  | `(tactic| walk_at "dl2") => `(tactic| first | (rw [sizeLine_eq]; omega) | (refine dl_put' ?_; walk_at "dl2"))
local macro_rules
  | `(tactic| walk_at "dl") => `(tactic| first | (rw [sizeLine_eq]; omega) | (refine dl_put ?_; walk_at "dl2"))
local macro_rules
  | `(tactic| walk_at "z1") => `(tactic| first
    | ((with_reducible refine' z_var ?h0 ?_); (case h0 => exact rfl))
    | with_reducible refine z_c ?_
    | with_reducible refine z_seq ?_
    | with_reducible refine z_op ?_
    | with_reducible refine z_get ?_
    | ((with_reducible refine' z_get1 ?h0 ?h1 ?_); (case h0 => walk_at "h"); (case h1 => exact rfl))
    | with_reducible refine z_cons ?_
    | with_reducible refine z_nil ?_
    | with_reducible refine z_i0 ?_
    | with_reducible refine z_call ?_
    | with_reducible refine z_mt ?_
    | ((with_reducible refine' z_mt1 ?h0 ?h1 ?_); (case h0 => walk_at "h"); (case h1 => exact rfl))
    | with_reducible refine z_put ?_
    | ((with_reducible refine' z_put1 ?h0 ?h1 ?_); (case h0 => walk_at "h"); (case h1 => walk_at "fl"))
    | with_reducible refine z_cb ?_
    | ((with_reducible refine' z_lenS ?h0 ?_); (case h0 => walk_at "sz"))
    | ((with_reducible refine' z_lenL ?h0 ?_); (case h0 => walk_at "sq"))
    | ((with_reducible refine' z_lenT ?h0 ?_); (case h0 => walk_at "sq"))
    | with_reducible refine z_test ?_
    | with_reducible refine z_tB ?_
    | with_reducible refine z_bl ?_
    | with_reducible refine z_int ?_
    | ((with_reducible refine' z_eq ?h0 ?_); (case h0 => exact rfl))
    | ((with_reducible refine' z_ne ?h0 ?_); (case h0 => exact rfl))
    | with_reducible refine z_isN ?_
    | with_reducible refine z_notN ?_
    | with_reducible refine z_and ?_
    | with_reducible refine z_or ?_
    | with_reducible refine z_not ?_
    | with_reducible refine z_notV ?_
    | with_reducible refine z_andV ?_
    | with_reducible refine z_orV ?_
    | with_reducible refine z_chain ?_
    | with_reducible refine z_tr ?_
    | ((with_reducible refine' z_truL ?h0 ?_); (case h0 => walk_at "sq"))
    | with_reducible refine z_if ?_
    | with_reducible refine z_ifS ?_
    | with_reducible refine z_ret ?_
    | with_reducible refine z_retN ?_
    | with_reducible refine z_drop ?_
    | with_reducible refine z_next ?_
    | with_reducible refine z_asg ?_
    | with_reducible refine z_gname ?_
    | with_reducible refine z_gsub ?_
    | with_reducible refine z_gatt ?_
    | with_reducible refine z_gcons ?_
    | with_reducible refine z_gnil ?_
    | ((with_reducible refine' z_gtup ?h0 ?h1 ?_); (case h0 => walk_at "sq"); (case h1 => exact rfl))
    | ((with_reducible refine' z_ixT ?h0 ?h1 ?_); (case h0 => walk_at "sq"); (case h1 => exact rfl))
    | ((with_reducible refine' z_in ?h0 ?h1 ?h2 ?_); (case h0 => first | exact .inr (SqT.of (by walk_at "h")) | exact .inl (SqL.of (by walk_at "h"))); (case h1 => exact rfl); (case h2 => exact rfl))
    | with_reducible refine z_dget ?_
    | ((with_reducible refine' z_dget1 ?h0 ?h1 ?_); (case h0 => walk_at "h"); (case h1 => walk_at "dg"))
    | with_reducible refine z_dput ?_
    | ((with_reducible refine' z_dput1 ?h0 ?h1 ?_); (case h0 => walk_at "h"); (case h1 => walk_at "dl"))
    | with_reducible refine z_disp ?_
    | with_reducible refine z_pcons ?_
    | with_reducible refine z_pnil ?_
    | with_reducible refine z_par ?_
    | with_reducible refine z_par1 ?_
    | ((with_reducible refine' z_truS ?h0 ?_); (case h0 => walk_at "sz"))
    | with_reducible refine z_lst ?_
    | with_reducible refine z_tup ?_
    | with_reducible refine z_bm ?_
    | with_reducible refine z_bm0 ?_
    | ((with_reducible refine' z_tyL ?h0 ?_); (case h0 => walk_at "sq"))
    | with_reducible refine z_tyS ?_
    | ((with_reducible refine' z_app ?h0 ?h1 ?_); (case h0 => walk_at "h"); (case h1 => walk_at "sz"))
    | with_reducible refine z_sl ?_
    | with_reducible refine z_nop ?_
    | with_reducible refine z_isalpha ?_
    | with_reducible refine z_sortSet ?_
    | with_reducible refine z_starts ?_
    | with_reducible refine z_find ?_
    | with_reducible refine z_find3 ?_
    | with_reducible refine z_rfind4 ?_
    | with_reducible refine z_int1b ?_
    | with_reducible refine z_revL ?_
    | ((with_reducible refine' z_revL1 ?h0 ?_); (case h0 => walk_at "sq"))
    | with_reducible refine z_part ?_
    | ((with_reducible refine' z_slL ?h0 ?_); (case h0 => walk_at "sq"))
    | ((with_reducible refine' z_slS ?h0 ?_); (case h0 => walk_at "sz"))
    | ((with_reducible refine' z_cat ?h0 ?h1 ?h2 ?_); (case h0 => walk_at "h"); (case h1 => walk_at "h"); (case h2 => walk_at "sz"))
    | ((with_reducible refine' z_addS ?h0 ?_); (case h0 => walk_at "sz"))
    | with_reducible refine z_un ?_
    | with_reducible refine z_rU ?_
    | with_reducible refine z_mk ?_
    | ((with_reducible refine' z_lo ?h0 ?_); (case h0 => walk_at "sq"))
    | with_reducible refine z_min ?_
    | with_reducible refine z_max ?_
    | with_reducible refine z_raise ?_
    | with_reducible refine z_try ?_
    | ((with_reducible refine' z_ord ?h0 ?_); (case h0 => assumption))
    | ((with_reducible refine' z_imp ?h0 ?_); (case h0 => walk_at "sz"))
    | with_reducible refine z_lc ?_
    | with_reducible refine z_for ?_
    | with_reducible refine z_rng1 ?_
    | with_reducible refine z_rng2 ?_
    | with_reducible refine z_rng3 ?_
    | with_reducible refine z_inStr ?_
    | with_reducible refine z_yes ?_
    | with_reducible refine z_iStr ?_
    | with_reducible refine z_iLst ?_
    | with_reducible refine z_iTup ?_
    | with_reducible refine z_str ?_
    | ((with_reducible refine' z_sqL ?h0 ?_); (case h0 => walk_at "sq"))
    | ((with_reducible refine' z_sqT ?h0 ?_); (case h0 => walk_at "sq"))
    | with_reducible refine iteT ?_
    | with_reducible refine iteF ?_
    | ((with_reducible refine' z_ifT ?h0 ?_); (case h0 => first | assumption | exact rfl))
    | ((with_reducible refine' z_ifF ?h0 ?_); (case h0 => first | assumption | exact rfl)))
local macro_rules
  | `(tactic| walk_at "z") => `(tactic| repeat walk_at "z1")
local macro_rules
  | `(tactic| walk_at "zi") => `(tactic| repeat first | walk_at "z1" | (with_reducible intro _ _))

def exB (K : PySem.W.Frag) (x : Str) : Bool := He.eqO (PySem.W.findIn K (.ref (He.ga K x)) "__getattribute__") (some (some (.builtin "BaseException.__getattribute__"))) && (He.eqO (PySem.W.findIn K (.ref (He.ga K x)) "__getattr__") (some none) && (decide (PySem.W.subIn K (.ref (He.ga K x)) (.type "BaseException") = some true) && (PySem.W.hasDictIn K (He.ga K x) && (He.eqO (PySem.W.findIn K (.ref (He.ga K x)) "__class__") (some (some (.builtin "object.__class__"))) &&
  (He.eqO (PySem.W.specialIn K (.builtin "object.__class__") "__get__") (some (some (.builtin "getset_descriptor.__get__"))) && (decide (PySem.W.takesIn K (.builtin "object.__class__") = some true) && (decide (PySem.W.mroIn K (He.ga K x) (.type "object") = some true) && decide (PySem.W.kitOne K (.ref (He.ga K x)) (.type "ValueError") = some true))))))))
def kitB2 (K : PySem.W.Frag) (x y : Str) (b : Bool) : Bool := decide (PySem.W.kitOne K (.ref (He.ga K x)) (.ref (He.ga K y)) = some b)
theorem exB_ok {K : PySem.W.Frag} {x : Str} (h : exB K x = true) : ExcC K (He.ga K x) := by
  obtain ⟨h1, h⟩ := He.ba h
  obtain ⟨h2, h⟩ := He.ba h
  obtain ⟨h3, h⟩ := He.ba h
  obtain ⟨h4, h⟩ := He.ba h
  obtain ⟨h5, h⟩ := He.ba h
  obtain ⟨h6, h⟩ := He.ba h
  obtain ⟨h7, h⟩ := He.ba h
  obtain ⟨h8, _⟩ := He.ba h
  exact ⟨He.eqO_ok h1, He.eqO_ok h2, of_decide_eq_true h3, h4, He.eqO_ok h5, He.eqO_ok h6, of_decide_eq_true h7, of_decide_eq_true h8⟩
theorem exB_ve {K : PySem.W.Frag} {x : Str} (h : exB K x = true) : PySem.W.kitOne K (.ref (He.ga K x)) (.type "ValueError") = some true := by
  obtain ⟨_, h⟩ := He.ba h
  obtain ⟨_, h⟩ := He.ba h
  obtain ⟨_, h⟩ := He.ba h
  obtain ⟨_, h⟩ := He.ba h
  obtain ⟨_, h⟩ := He.ba h
  obtain ⟨_, h⟩ := He.ba h
  obtain ⟨_, h⟩ := He.ba h
  obtain ⟨_, h⟩ := He.ba h
  exact of_decide_eq_true h
/-! a look at the heap that the top leaves: the module's names, what they are, the classes' own names, all code objects -/
def isFunc (o : Obj) : Bool := match o.data with
  | .func _ => true
  | _ => false
def codeRefs (g : Addr → Option Obj) (l : List Addr) : List Addr := l.flatMap fun a => match g a with
  | some ⟨_, _, .func fd, _⟩ => He.refV fd.code
  | _ => []
def nsRefs (g : Addr → Option Obj) (l : List Addr) : List Addr := l.flatMap fun a => match g a with
  | some ⟨_, _, .cls cd, _⟩ => [cd.ns]
  | _ => []
def dictRefs (g : Addr → Option Obj) (l : List Addr) : List Addr := l.flatMap fun a => match g a with
  | some ⟨_, _, .dict es _, _⟩ => es.toList.flatMap fun e => He.refV e.val
  | _ => []
def asY (g : Addr → Option Obj) : List Addr :=
  let gl := dictRefs g [mainGlobals]
  let ns := nsRefs g gl
  let ms := dictRefs g ns
  mainGlobals :: (gl ++ (ns ++ (ms ++ (codeRefs g gl ++ codeRefs g ms))))
abbrev AlY : Type := He.AlD × Bool
def obsY (fa : List He.Fa) (fn : List He.DefD) (ex : PySem.W.Frag → Bool) (g : Addr → Option Obj) : AlY := (He.obsD fa fn (He.frG g (asY g)), ex (He.frG g (asY g)))
def valY (fn : List He.DefD) : AlY := (He.valD fn, true)
structure SaysY (fa : List He.Fa) (fn : List He.DefD) (ex : PySem.W.Frag → Bool) (K : PySem.W.Frag) : Prop where
  d : He.SaysD fa fn K
  ex : ex K = true
def hookY (fa : List He.Fa) (fn : List He.DefD) (ex : PySem.W.Frag → Bool) : PySem.W.Hook where
  α := AlY
  obs := fun s => obsY fa fn ex s.heap.get?
  val := fun _ => valY fn
  says := fun _ h => ∃ K : PySem.W.Frag, K.In h ∧ SaysY fa fn ex K
  of := fun _ _ e => ⟨_, He.frG_in, congrArg (fun z : AlY => z.1) e, congrArg (fun z : AlY => z.2) e⟩
  keeps := fun _ _ _ ⟨K, hK, c⟩ k => ⟨K, PySem.W.Frag.In.keeps hK k, c⟩
theorem obsY_eq {fa : List He.Fa} {fn : List He.DefD} {ex : PySem.W.Frag → Bool} {g : Addr → Option Obj} {s : Shared} (h : ∀ a, g a = s.heap.get? a) : obsY fa fn ex g = (hookY fa fn ex).obs s := by
  have e : g = s.heap.get? := funext h
  rw [e] <;> rfl
theorem map_two {α β γ : Type} {x : Option α} {f : α → β} {g : α → γ} {a : β} {b : γ} (h1 : x.map f = some a) (h2 : x.map g = some b) : x.map (fun s => (f s, g s)) = some (a, b) := by
  cases x with
  | none => cases h1
  | some s => rw [Option.map_some] at h1 h2 ⊢; rw [Option.some.inj h1, Option.some.inj h2]
/-! the text by places -/
def top (i : Nat) : Stmt := PySem.Challenge.pw_linehand_k31_whole_fills.main.body.getD i (.Pass ⟨0, 0, 0, 0⟩)
abbrev s_is_sign : Stmt := top 8
abbrev s_look_text : Stmt := top 9
abbrev s_look_place : Stmt := top 10
abbrev s_Filler_init : Stmt := inClass (top 13) 0
abbrev s_Filler_start : Stmt := inClass (top 13) 1
abbrev s_Filler_fitting : Stmt := inClass (top 13) 2
abbrev s_Filler_common : Stmt := inClass (top 13) 3
abbrev s__law_cell : Stmt := top 15
abbrev s__law_mix : Stmt := top 16
abbrev s__law_draw : Stmt := top 17
abbrev s__law_pick : Stmt := top 18
abbrev s__law_refusal : Stmt := top 19
abbrev s__law_told : Stmt := top 20
abbrev s_law : Stmt := top 21
def d_is_sign : He.DefD := ⟨("is_sign", none), "is_sign", "is_sign", defArgs s_is_sign, defBody s_is_sign, defScope s_is_sign, [], []⟩
def d_look_text : He.DefD := ⟨("look_text", none), "look_text", "look_text", defArgs s_look_text, defBody s_look_text, defScope s_look_text, [], []⟩
def d_look_place : He.DefD := ⟨("look_place", none), "look_place", "look_place", defArgs s_look_place, defBody s_look_place, defScope s_look_place, [], []⟩
def d_Filler_init : He.DefD := ⟨("Filler", some "__init__"), "__init__", "Filler.__init__", defArgs s_Filler_init, defBody s_Filler_init, defScope s_Filler_init, [], []⟩
def d_Filler_start : He.DefD := ⟨("Filler", some "start"), "start", "Filler.start", defArgs s_Filler_start, defBody s_Filler_start, defScope s_Filler_start, [], []⟩
def d_Filler_fitting : He.DefD := ⟨("Filler", some "fitting"), "fitting", "Filler.fitting", defArgs s_Filler_fitting, defBody s_Filler_fitting, defScope s_Filler_fitting, [], []⟩
def d_Filler_common : He.DefD := ⟨("Filler", some "common"), "common", "Filler.common", defArgs s_Filler_common, defBody s_Filler_common, defScope s_Filler_common, [], []⟩
def d__law_cell : He.DefD := ⟨("_law_cell", none), "_law_cell", "_law_cell", defArgs s__law_cell, defBody s__law_cell, defScope s__law_cell, [], []⟩
def d__law_mix : He.DefD := ⟨("_law_mix", none), "_law_mix", "_law_mix", defArgs s__law_mix, defBody s__law_mix, defScope s__law_mix, [], []⟩
def d__law_draw : He.DefD := ⟨("_law_draw", none), "_law_draw", "_law_draw", defArgs s__law_draw, defBody s__law_draw, defScope s__law_draw, [], []⟩
def d__law_pick : He.DefD := ⟨("_law_pick", none), "_law_pick", "_law_pick", defArgs s__law_pick, defBody s__law_pick, defScope s__law_pick, [], []⟩
def d__law_refusal : He.DefD := ⟨("_law_refusal", none), "_law_refusal", "_law_refusal", defArgs s__law_refusal, defBody s__law_refusal, defScope s__law_refusal, [], []⟩
def d__law_told : He.DefD := ⟨("_law_told", none), "_law_told", "_law_told", defArgs s__law_told, defBody s__law_told, defScope s__law_told, [], []⟩
def d_law : He.DefD := ⟨("law", none), "law", "law", defArgs s_law, defBody s_law, defScope s_law, [], []⟩
def fn : List He.DefD := [d_is_sign, d_look_text, d_look_place, d_Filler_init, d_Filler_start, d_Filler_fitting, d_Filler_common, d__law_cell, d__law_mix, d__law_draw, d__law_pick, d__law_refusal, d__law_told, d_law]
def fa0 : List He.Fa := [.glo "is_sign", .glo "look_text", .glo "look_place", .glo "_law_cell", .glo "_law_mix", .glo "_law_draw", .glo "_law_pick", .glo "_law_refusal", .glo "_law_told", .glo "law", .glo "HandError", .exc "HandError", .exm "HandError" "HandError" true, .glo "BadKey", .exc "BadKey", .exm "BadKey" "HandError" true, .glo "BadText", .exc "BadText", .exm "BadText" "HandError" true, .glo "BadSize", .exc "BadSize", .exm "BadSize" "HandError" true, .glo "BadPlace", .exc "BadPlace", .exm "BadPlace" "HandError" true, .glo "Filler", .cls "Filler", .mkr "Filler", .noat "Filler" "words", .meth "Filler" "start"]
def fa1 : List He.Fa := [.meth "Filler" "fitting", .meth "Filler" "common", .int "MOST_TEXT" 400, .int "MOST_WORDS" 200, .free "ValueError", .free "all", .free "isinstance", .free "len", .free "list", .free "max", .free "ord", .free "range", .free "set", .free "sorted"]
def fa : List He.Fa := fa0 ++ fa1
def ex (K : PySem.W.Frag) : Bool := (exB K "BadKey") && (kitB2 K "BadKey" "BadKey" true) && (kitB2 K "BadKey" "BadText" false) && (kitB2 K "BadKey" "BadSize" false) && (kitB2 K "BadKey" "BadPlace" false) && (exB K "BadText") && (kitB2 K "BadText" "BadKey" false) && (kitB2 K "BadText" "BadText" true) && (kitB2 K "BadText" "BadSize" false) && (kitB2 K "BadText" "BadPlace" false) && (exB K "BadSize") && (kitB2 K "BadSize" "BadKey" false) && (kitB2 K "BadSize" "BadText" false) && (kitB2 K "BadSize" "BadSize" true) && (kitB2 K "BadSize" "BadPlace" false) && (exB K "BadPlace") && (kitB2 K "BadPlace" "BadKey" false) && (kitB2 K "BadPlace" "BadText" false) && (kitB2 K "BadPlace" "BadSize" false) && (kitB2 K "BadPlace" "BadPlace" true)
structure Tx (K : PySem.W.Frag) (mg : Str → Option Value) : Prop where
  c : SaysY fa fn ex K
  g : ∃ h : Heap, K.In h ∧ h.Ns mainGlobals mg
section
variable {K : PySem.W.Frag} {mg : Str → Option Value}
theorem Tx.g_is_sign (T : Tx K mg) : mg "is_sign" = some (.ref (He.ga K "is_sign")) := let ⟨_, X, G⟩ := T.g; He.glo_ok X G (T.c.d.fact 0 rfl)
theorem Tx.g_look_text (T : Tx K mg) : mg "look_text" = some (.ref (He.ga K "look_text")) := let ⟨_, X, G⟩ := T.g; He.glo_ok X G (T.c.d.fact 1 rfl)
theorem Tx.g_look_place (T : Tx K mg) : mg "look_place" = some (.ref (He.ga K "look_place")) := let ⟨_, X, G⟩ := T.g; He.glo_ok X G (T.c.d.fact 2 rfl)
theorem Tx.g__law_cell (T : Tx K mg) : mg "_law_cell" = some (.ref (He.ga K "_law_cell")) := let ⟨_, X, G⟩ := T.g; He.glo_ok X G (T.c.d.fact 3 rfl)
theorem Tx.g__law_mix (T : Tx K mg) : mg "_law_mix" = some (.ref (He.ga K "_law_mix")) := let ⟨_, X, G⟩ := T.g; He.glo_ok X G (T.c.d.fact 4 rfl)
theorem Tx.g__law_draw (T : Tx K mg) : mg "_law_draw" = some (.ref (He.ga K "_law_draw")) := let ⟨_, X, G⟩ := T.g; He.glo_ok X G (T.c.d.fact 5 rfl)
theorem Tx.g__law_pick (T : Tx K mg) : mg "_law_pick" = some (.ref (He.ga K "_law_pick")) := let ⟨_, X, G⟩ := T.g; He.glo_ok X G (T.c.d.fact 6 rfl)
theorem Tx.g__law_refusal (T : Tx K mg) : mg "_law_refusal" = some (.ref (He.ga K "_law_refusal")) := let ⟨_, X, G⟩ := T.g; He.glo_ok X G (T.c.d.fact 7 rfl)
theorem Tx.g__law_told (T : Tx K mg) : mg "_law_told" = some (.ref (He.ga K "_law_told")) := let ⟨_, X, G⟩ := T.g; He.glo_ok X G (T.c.d.fact 8 rfl)
theorem Tx.g_law (T : Tx K mg) : mg "law" = some (.ref (He.ga K "law")) := let ⟨_, X, G⟩ := T.g; He.glo_ok X G (T.c.d.fact 9 rfl)
theorem Tx.g_HandError (T : Tx K mg) : mg "HandError" = some (.ref (He.ga K "HandError")) := let ⟨_, X, G⟩ := T.g; He.glo_ok X G (T.c.d.fact 10 rfl)
theorem Tx.x_HandError (T : Tx K mg) : Xc K (He.ga K "HandError") := He.exc_ok (K := K) (x := "HandError") (T.c.d.fact 11 rfl)
theorem Tx.e_HandError (T : Tx K mg) : PySem.W.exmOne K (.ref (He.ga K "HandError")) (.ref (He.ga K "HandError")) = some true := He.exm_ok (T.c.d.fact 12 rfl)
theorem Tx.g_BadKey (T : Tx K mg) : mg "BadKey" = some (.ref (He.ga K "BadKey")) := let ⟨_, X, G⟩ := T.g; He.glo_ok X G (T.c.d.fact 13 rfl)
theorem Tx.x_BadKey (T : Tx K mg) : Xc K (He.ga K "BadKey") := He.exc_ok (K := K) (x := "BadKey") (T.c.d.fact 14 rfl)
theorem Tx.e_BadKey (T : Tx K mg) : PySem.W.exmOne K (.ref (He.ga K "BadKey")) (.ref (He.ga K "HandError")) = some true := He.exm_ok (T.c.d.fact 15 rfl)
theorem Tx.g_BadText (T : Tx K mg) : mg "BadText" = some (.ref (He.ga K "BadText")) := let ⟨_, X, G⟩ := T.g; He.glo_ok X G (T.c.d.fact 16 rfl)
theorem Tx.x_BadText (T : Tx K mg) : Xc K (He.ga K "BadText") := He.exc_ok (K := K) (x := "BadText") (T.c.d.fact 17 rfl)
theorem Tx.e_BadText (T : Tx K mg) : PySem.W.exmOne K (.ref (He.ga K "BadText")) (.ref (He.ga K "HandError")) = some true := He.exm_ok (T.c.d.fact 18 rfl)
theorem Tx.g_BadSize (T : Tx K mg) : mg "BadSize" = some (.ref (He.ga K "BadSize")) := let ⟨_, X, G⟩ := T.g; He.glo_ok X G (T.c.d.fact 19 rfl)
theorem Tx.x_BadSize (T : Tx K mg) : Xc K (He.ga K "BadSize") := He.exc_ok (K := K) (x := "BadSize") (T.c.d.fact 20 rfl)
theorem Tx.e_BadSize (T : Tx K mg) : PySem.W.exmOne K (.ref (He.ga K "BadSize")) (.ref (He.ga K "HandError")) = some true := He.exm_ok (T.c.d.fact 21 rfl)
theorem Tx.g_BadPlace (T : Tx K mg) : mg "BadPlace" = some (.ref (He.ga K "BadPlace")) := let ⟨_, X, G⟩ := T.g; He.glo_ok X G (T.c.d.fact 22 rfl)
theorem Tx.x_BadPlace (T : Tx K mg) : Xc K (He.ga K "BadPlace") := He.exc_ok (K := K) (x := "BadPlace") (T.c.d.fact 23 rfl)
theorem Tx.e_BadPlace (T : Tx K mg) : PySem.W.exmOne K (.ref (He.ga K "BadPlace")) (.ref (He.ga K "HandError")) = some true := He.exm_ok (T.c.d.fact 24 rfl)
theorem Tx.g_Filler (T : Tx K mg) : mg "Filler" = some (.ref (He.ga K "Filler")) := let ⟨_, X, G⟩ := T.g; He.glo_ok X G (T.c.d.fact 25 rfl)
theorem Tx.cl_Filler (T : Tx K mg) : Cls K (He.ga K "Filler") := He.cls_ok (T.c.d.fact 26 rfl)
theorem Tx.mr_Filler (T : Tx K mg) : Mk K (He.ga K "Filler") (He.ma K (He.ga K "Filler") "__init__") := He.mkr_ok (T.c.d.fact 27 rfl)
theorem Tx.na_Filler_words (T : Tx K mg) : NoAttr K (He.ga K "Filler") "words" := He.noat_ok (T.c.d.fact 28 rfl)
theorem Tx.me_Filler_start (T : Tx K mg) : Meth K (He.ga K "Filler") "start" (He.ma K (He.ga K "Filler") "start") := He.meth_ok (T.c.d.fact 29 rfl)
theorem Tx.me_Filler_fitting (T : Tx K mg) : Meth K (He.ga K "Filler") "fitting" (He.ma K (He.ga K "Filler") "fitting") := He.meth_ok (T.c.d.fact 30 rfl)
theorem Tx.me_Filler_common (T : Tx K mg) : Meth K (He.ga K "Filler") "common" (He.ma K (He.ga K "Filler") "common") := He.meth_ok (T.c.d.fact 31 rfl)
theorem Tx.c_MOST_TEXT (T : Tx K mg) : ∃ u, mg "MOST_TEXT" = some u ∧ RelV (.int 400) u := let ⟨_, X, G⟩ := T.g; let ⟨t, e⟩ := He.int_ok X G (T.c.d.fact 32 rfl); ⟨_, e, t, rfl⟩
theorem Tx.c_MOST_WORDS (T : Tx K mg) : ∃ u, mg "MOST_WORDS" = some u ∧ RelV (.int 200) u := let ⟨_, X, G⟩ := T.g; let ⟨t, e⟩ := He.int_ok X G (T.c.d.fact 33 rfl); ⟨_, e, t, rfl⟩
theorem Tx.n_ValueError (T : Tx K mg) : mg "ValueError" = none := let ⟨_, X, G⟩ := T.g; He.free_ok X G (T.c.d.fact 34 rfl)
theorem Tx.n_all (T : Tx K mg) : mg "all" = none := let ⟨_, X, G⟩ := T.g; He.free_ok X G (T.c.d.fact 35 rfl)
theorem Tx.n_isinstance (T : Tx K mg) : mg "isinstance" = none := let ⟨_, X, G⟩ := T.g; He.free_ok X G (T.c.d.fact 36 rfl)
theorem Tx.n_len (T : Tx K mg) : mg "len" = none := let ⟨_, X, G⟩ := T.g; He.free_ok X G (T.c.d.fact 37 rfl)
theorem Tx.n_list (T : Tx K mg) : mg "list" = none := let ⟨_, X, G⟩ := T.g; He.free_ok X G (T.c.d.fact 38 rfl)
theorem Tx.n_max (T : Tx K mg) : mg "max" = none := let ⟨_, X, G⟩ := T.g; He.free_ok X G (T.c.d.fact 39 rfl)
theorem Tx.n_ord (T : Tx K mg) : mg "ord" = none := let ⟨_, X, G⟩ := T.g; He.free_ok X G (T.c.d.fact 40 rfl)
theorem Tx.n_range (T : Tx K mg) : mg "range" = none := let ⟨_, X, G⟩ := T.g; He.free_ok X G (T.c.d.fact 41 rfl)
theorem Tx.n_set (T : Tx K mg) : mg "set" = none := let ⟨_, X, G⟩ := T.g; He.free_ok X G (T.c.d.fact 42 rfl)
theorem Tx.n_sorted (T : Tx K mg) : mg "sorted" = none := let ⟨_, X, G⟩ := T.g; He.free_ok X G (T.c.d.fact 43 rfl)
theorem Tx.q_BadKey (T : Tx K mg) : exB K "BadKey" = true := (He.ba (He.ba (He.ba (He.ba (He.ba (He.ba (He.ba (He.ba (He.ba (He.ba (He.ba (He.ba (He.ba (He.ba (He.ba (He.ba (He.ba (He.ba (He.ba T.c.ex).1).1).1).1).1).1).1).1).1).1).1).1).1).1).1).1).1).1).1
theorem Tx.k_BadKey_BadKey (T : Tx K mg) : PySem.W.kitOne K (.ref (He.ga K "BadKey")) (.ref (He.ga K "BadKey")) = some true := of_decide_eq_true (He.ba (He.ba (He.ba (He.ba (He.ba (He.ba (He.ba (He.ba (He.ba (He.ba (He.ba (He.ba (He.ba (He.ba (He.ba (He.ba (He.ba (He.ba (He.ba T.c.ex).1).1).1).1).1).1).1).1).1).1).1).1).1).1).1).1).1).1).2
theorem Tx.k_BadKey_BadText (T : Tx K mg) : PySem.W.kitOne K (.ref (He.ga K "BadKey")) (.ref (He.ga K "BadText")) = some false := of_decide_eq_true (He.ba (He.ba (He.ba (He.ba (He.ba (He.ba (He.ba (He.ba (He.ba (He.ba (He.ba (He.ba (He.ba (He.ba (He.ba (He.ba (He.ba (He.ba T.c.ex).1).1).1).1).1).1).1).1).1).1).1).1).1).1).1).1).1).2
theorem Tx.k_BadKey_BadSize (T : Tx K mg) : PySem.W.kitOne K (.ref (He.ga K "BadKey")) (.ref (He.ga K "BadSize")) = some false := of_decide_eq_true (He.ba (He.ba (He.ba (He.ba (He.ba (He.ba (He.ba (He.ba (He.ba (He.ba (He.ba (He.ba (He.ba (He.ba (He.ba (He.ba (He.ba T.c.ex).1).1).1).1).1).1).1).1).1).1).1).1).1).1).1).1).2
theorem Tx.k_BadKey_BadPlace (T : Tx K mg) : PySem.W.kitOne K (.ref (He.ga K "BadKey")) (.ref (He.ga K "BadPlace")) = some false := of_decide_eq_true (He.ba (He.ba (He.ba (He.ba (He.ba (He.ba (He.ba (He.ba (He.ba (He.ba (He.ba (He.ba (He.ba (He.ba (He.ba (He.ba T.c.ex).1).1).1).1).1).1).1).1).1).1).1).1).1).1).1).2
theorem Tx.q_BadText (T : Tx K mg) : exB K "BadText" = true := (He.ba (He.ba (He.ba (He.ba (He.ba (He.ba (He.ba (He.ba (He.ba (He.ba (He.ba (He.ba (He.ba (He.ba (He.ba T.c.ex).1).1).1).1).1).1).1).1).1).1).1).1).1).1).2
theorem Tx.k_BadText_BadKey (T : Tx K mg) : PySem.W.kitOne K (.ref (He.ga K "BadText")) (.ref (He.ga K "BadKey")) = some false := of_decide_eq_true (He.ba (He.ba (He.ba (He.ba (He.ba (He.ba (He.ba (He.ba (He.ba (He.ba (He.ba (He.ba (He.ba (He.ba T.c.ex).1).1).1).1).1).1).1).1).1).1).1).1).1).2
theorem Tx.k_BadText_BadText (T : Tx K mg) : PySem.W.kitOne K (.ref (He.ga K "BadText")) (.ref (He.ga K "BadText")) = some true := of_decide_eq_true (He.ba (He.ba (He.ba (He.ba (He.ba (He.ba (He.ba (He.ba (He.ba (He.ba (He.ba (He.ba (He.ba T.c.ex).1).1).1).1).1).1).1).1).1).1).1).1).2
theorem Tx.k_BadText_BadSize (T : Tx K mg) : PySem.W.kitOne K (.ref (He.ga K "BadText")) (.ref (He.ga K "BadSize")) = some false := of_decide_eq_true (He.ba (He.ba (He.ba (He.ba (He.ba (He.ba (He.ba (He.ba (He.ba (He.ba (He.ba (He.ba T.c.ex).1).1).1).1).1).1).1).1).1).1).1).2
theorem Tx.k_BadText_BadPlace (T : Tx K mg) : PySem.W.kitOne K (.ref (He.ga K "BadText")) (.ref (He.ga K "BadPlace")) = some false := of_decide_eq_true (He.ba (He.ba (He.ba (He.ba (He.ba (He.ba (He.ba (He.ba (He.ba (He.ba (He.ba T.c.ex).1).1).1).1).1).1).1).1).1).1).2
theorem Tx.q_BadSize (T : Tx K mg) : exB K "BadSize" = true := (He.ba (He.ba (He.ba (He.ba (He.ba (He.ba (He.ba (He.ba (He.ba (He.ba T.c.ex).1).1).1).1).1).1).1).1).1).2
theorem Tx.k_BadSize_BadKey (T : Tx K mg) : PySem.W.kitOne K (.ref (He.ga K "BadSize")) (.ref (He.ga K "BadKey")) = some false := of_decide_eq_true (He.ba (He.ba (He.ba (He.ba (He.ba (He.ba (He.ba (He.ba (He.ba T.c.ex).1).1).1).1).1).1).1).1).2
theorem Tx.k_BadSize_BadText (T : Tx K mg) : PySem.W.kitOne K (.ref (He.ga K "BadSize")) (.ref (He.ga K "BadText")) = some false := of_decide_eq_true (He.ba (He.ba (He.ba (He.ba (He.ba (He.ba (He.ba (He.ba T.c.ex).1).1).1).1).1).1).1).2
theorem Tx.k_BadSize_BadSize (T : Tx K mg) : PySem.W.kitOne K (.ref (He.ga K "BadSize")) (.ref (He.ga K "BadSize")) = some true := of_decide_eq_true (He.ba (He.ba (He.ba (He.ba (He.ba (He.ba (He.ba T.c.ex).1).1).1).1).1).1).2
theorem Tx.k_BadSize_BadPlace (T : Tx K mg) : PySem.W.kitOne K (.ref (He.ga K "BadSize")) (.ref (He.ga K "BadPlace")) = some false := of_decide_eq_true (He.ba (He.ba (He.ba (He.ba (He.ba (He.ba T.c.ex).1).1).1).1).1).2
theorem Tx.q_BadPlace (T : Tx K mg) : exB K "BadPlace" = true := (He.ba (He.ba (He.ba (He.ba (He.ba T.c.ex).1).1).1).1).2
theorem Tx.k_BadPlace_BadKey (T : Tx K mg) : PySem.W.kitOne K (.ref (He.ga K "BadPlace")) (.ref (He.ga K "BadKey")) = some false := of_decide_eq_true (He.ba (He.ba (He.ba (He.ba T.c.ex).1).1).1).2
theorem Tx.k_BadPlace_BadText (T : Tx K mg) : PySem.W.kitOne K (.ref (He.ga K "BadPlace")) (.ref (He.ga K "BadText")) = some false := of_decide_eq_true (He.ba (He.ba (He.ba T.c.ex).1).1).2
theorem Tx.k_BadPlace_BadSize (T : Tx K mg) : PySem.W.kitOne K (.ref (He.ga K "BadPlace")) (.ref (He.ga K "BadSize")) = some false := of_decide_eq_true (He.ba (He.ba T.c.ex).1).2
theorem Tx.k_BadPlace_BadPlace (T : Tx K mg) : PySem.W.kitOne K (.ref (He.ga K "BadPlace")) (.ref (He.ga K "BadPlace")) = some true := of_decide_eq_true (He.ba T.c.ex).2
theorem Tx.ex_BadKey (T : Tx K mg) : ExcC K (He.ga K "BadKey") := exB_ok T.q_BadKey
theorem Tx.kv_BadKey (T : Tx K mg) : PySem.W.kitOne K (.ref (He.ga K "BadKey")) (.type "ValueError") = some true := exB_ve T.q_BadKey
theorem Tx.ex_BadText (T : Tx K mg) : ExcC K (He.ga K "BadText") := exB_ok T.q_BadText
theorem Tx.kv_BadText (T : Tx K mg) : PySem.W.kitOne K (.ref (He.ga K "BadText")) (.type "ValueError") = some true := exB_ve T.q_BadText
theorem Tx.ex_BadSize (T : Tx K mg) : ExcC K (He.ga K "BadSize") := exB_ok T.q_BadSize
theorem Tx.kv_BadSize (T : Tx K mg) : PySem.W.kitOne K (.ref (He.ga K "BadSize")) (.type "ValueError") = some true := exB_ve T.q_BadSize
theorem Tx.ex_BadPlace (T : Tx K mg) : ExcC K (He.ga K "BadPlace") := exB_ok T.q_BadPlace
theorem Tx.kv_BadPlace (T : Tx K mg) : PySem.W.kitOne K (.ref (He.ga K "BadPlace")) (.type "ValueError") = some true := exB_ve T.q_BadPlace
end

theorem sc_is_sign : FnScope ["sign"] ["sign"] (defScope s_is_sign) := ⟨rfl, rfl, rfl, by decide +kernel, rfl, by decide +kernel, by decide +kernel⟩
section
variable {P : Program} {w : World} {K : PySem.W.Frag} {mg : Str → Option Value} {base : Heap}
def sp_is_sign : Sp := fun vs H Q _ => ∃ s : Str, vs = [.str s] ∧ s.length ≤ sizeLine ∧ Q (.bl (isSign s)) H
theorem f_is_sign (T : Tx K mg) : Fn P w K mg base "is_sign" 1 ["sign"] sp_is_sign := by
  obtain ⟨fd, F⟩ := T.c.d.def_ 0 (d := d_is_sign) rfl
  refine ⟨_, fd, F.ok (CX := L2.CX P w) sc_is_sign (fun vs H Q E h => ?len) (fun cdv A outer s H vs Q E hr h => ?body), T.g_is_sign, F.kp, F.bindsN fun _ _ _ _ _ _ us hl => match us, hl with | [_], _ => rfl, FunD.bindsA F fun _ _ _ _ _ _ us hl => match us, hl with | [_], _ => rfl⟩
  case len => obtain ⟨x, rfl, hx, k⟩ := h; rfl
  case body =>
    obtain ⟨x, rfl, hx, k⟩ := h
    refine ⟨_, (pss_one (ps_ret (pe_and (pe_cmpR op_eq (pe_callB (call_lnK (K := K) rfl) rfl T.n_len boot_len (pa_cons (pv 0) pa_nil)) pe_int (nomark _)) (pe_and (pe_chain op_le op_lt pe_int (pe_callB call_or rfl T.n_ord (by decide +kernel) (pa_cons (pv 0) pa_nil)) pe_int) (pe_one (pe_cmpR op_ne (pe_callB call_or rfl T.n_ord (by decide +kernel) (pa_cons (pv 0) pa_nil)) pe_int (nomark _))))))), ?_⟩
    walk_at "z"
    refine ite_b (fun h1 => ?_) (fun h1 => ?_)
    · have hl : x.length = 1 := by
        have := of_decide_eq_true h1
        simp at this; omega
      have hl2 : (tl x).length = 1 := by rw [← len_tl]; exact hl
      obtain ⟨c, hc⟩ := List.length_eq_one_iff.mp hl2
      have e : x.cps.getD 0 0 = c := by
        have : x.cps = #[c] := by rw [← Array.toList_inj]; exact hc
        rw [this]; rfl
      have es : isSign x = okc c := by unfold isSign; rw [hc]
      walk_at "z"
      rw [e]
      refine ite_b (fun h2 => ?_) (fun h2 => ?_)
      · have h2' := of_decide_eq_true h2
        walk_at "z"
        refine ite_b (fun h3 => ?_) (fun h3 => ?_)
        · have h3' := of_decide_eq_true h3
          walk_at "z"
          have q : isSign x = !decide (V.int ↑(x.cps.getD 0 0) = V.int 37) := by
            have a1 : 32 ≤ c := by omega
            have a2 : c < 127 := by omega
            rw [es, e]; simp [okc, a1, a2]; omega
          rw [q] at k; exact k
        · have h3' := of_decide_eq_false h3
          have q : isSign x = false := by rw [es]; simp [okc]; omega
          rw [q] at k; exact k
      · have h2' := of_decide_eq_false h2
        walk_at "z"
        have q : isSign x = false := by rw [es]; simp [okc]; omega
        rw [q] at k; exact k
    · have hl : ¬ x.length = 1 := by
        intro hl
        have := of_decide_eq_false h1
        apply this; rw [hl]; rfl
      have e : isSign x = false := by
        unfold isSign
        split
        · rename_i c hc
          exact absurd (by rw [len_tl, hc]; rfl) hl
        · rfl
      rw [e] at k
      exact k
end

theorem sc_look_place : FnScope ["text", "at"] ["text", "at"] (defScope s_look_place) := ⟨rfl, rfl, rfl, by decide +kernel, rfl, by decide +kernel, by decide +kernel⟩
section
variable {P : Program} {w : World} {K : PySem.W.Frag} {mg : Str → Option Value} {base : Heap}
def sp_look_place (K : PySem.W.Frag) : Sp := fun vs H Q E => ∃ (x : Str) (a : Int), vs = [.str x, .int a] ∧ x.length ≤ sizeLine ∧ (LineS.place x a → Q .non H) ∧ (¬ LineS.place x a → E (.ref (He.ga K "BadPlace")) none H)
theorem f_look_place (T : Tx K mg) : Fn P w K mg base "look_place" 1 ["text", "at"] (sp_look_place K) := by
  obtain ⟨fd, F⟩ := T.c.d.def_ 2 (d := d_look_place) rfl
  refine ⟨_, fd, F.ok (CX := L2.CX P w) sc_look_place (fun vs H Q E h => ?len) (fun cdv A outer s H vs Q E hr h => ?body), T.g_look_place, F.kp, F.bindsN fun _ _ _ _ _ _ us hl => match us, hl with | [_, _], _ => rfl, FunD.bindsA F fun _ _ _ _ _ _ us hl => match us, hl with | [_, _], _ => rfl⟩
  case len => obtain ⟨x, a, rfl, hx, k1, k2⟩ := h; rfl
  case body =>
    obtain ⟨x, a, rfl, hx, k1, k2⟩ := h
    refine ⟨_, (pss_one (ps_if (pt_not (pt_chain op_le op_le pe_int (pv 1) (pe_callB (call_lnK (K := K) rfl) rfl T.n_len boot_len (pa_cons (pv 0) pa_nil)))) (pss_one (ps_rs rfl tkOf T.x_BadPlace T.g_BadPlace)) pss_nil)), ?_⟩
    walk_at "z"
    refine ite_b (fun h1 => ?_) (fun h1 => ?_)
    · have h1' := of_decide_eq_true h1
      walk_at "z"
      refine ite_b (fun h2 => ?_) (fun h2 => ?_)
      · walk_at "z"
        refine k2 fun z => ?_
        have := z.2
        simp at h2; omega
      · walk_at "z"
        refine k1 ⟨h1', ?_⟩
        simpa using h2
    · have h1' := of_decide_eq_false h1
      walk_at "z"
      exact k2 fun z => h1' z.1
end

theorem sc__law_cell : FnScope ["script", "k"] ["script", "k"] (defScope s__law_cell) := ⟨rfl, rfl, rfl, by decide +kernel, rfl, by decide +kernel, by decide +kernel⟩
section
variable {P : Program} {w : World} {K : PySem.W.Frag} {mg : Str → Option Value} {base : Heap}
def sp_law_cell (K : PySem.W.Frag) : Sp := fun vs H Q _ => ∃ (a : Addr) (ns : List Int) (k : Int), vs = [.ref a, .int k] ∧ Scr K H a ns ∧ ∀ z : Int, Q (.int z) H
theorem f__law_cell (T : Tx K mg) : Fn P w K mg base "_law_cell" 1 ["script", "k"] (sp_law_cell K) := by
  obtain ⟨fd, F⟩ := T.c.d.def_ 7 (d := d__law_cell) rfl
  refine ⟨_, fd, F.ok (CX := L2.CX P w) sc__law_cell (fun vs H Q E h => ?len) (fun cdv A outer s H vs Q E hr h => ?body), T.g__law_cell, F.kp, F.bindsN fun _ _ _ _ _ _ us hl => match us, hl with | [_, _], _ => rfl, FunD.bindsA F fun _ _ _ _ _ _ us hl => match us, hl with | [_, _], _ => rfl⟩
  case len => obtain ⟨a, ns, n, rfl, hs0, k⟩ := h; rfl
  case body =>
    obtain ⟨a, ns, n, rfl, hs0, k⟩ := h
    refine ⟨_, (pss_cons (ps_if (pt_trK (K := K) rfl (pv 0)) (pss_one (ps_ret (pe_ix (ix_listK (K := K) rfl) (pv 0) (pe_op op_mod (pv 1) (pe_callB (call_lnK (K := K) rfl) rfl T.n_len boot_len (pa_cons (pv 0) pa_nil))) (fun _ _ => rfl)))) pss_nil)
      (pss_one (ps_ret pe_int))), ?_⟩
    have hs := hs0.sq
    walk_at "z"
    cases ns with
    | nil =>
      refine iteF ?_
      walk_at "z"
      exact k _
    | cons t r =>
      refine iteT ?_
      walk_at "z"
      have hp : (0 : Int) < (((t :: r).map V.int).length : Nat) := by simp
      refine z_i hp ?_
      have h1 := Int.emod_nonneg n (show (((t :: r).map V.int).length : Int) ≠ 0 by omega)
      have h2 := Int.emod_lt_of_pos n hp
      obtain ⟨j, e⟩ := Int.eq_ofNat_of_zero_le h1
      have hj : j < (t :: r).length := by simp at h2 e ⊢; omega
      refine z_ixL hs (v := .int ((t :: r)[j])) ?_ (k _)
      show atI _ (n % (((t :: r).map V.int).length : Nat)) = _
      rw [e]
      exact atI_nat (by rw [List.getElem?_map, List.getElem?_eq_getElem hj]; rfl)
end

theorem sc__law_refusal : FnScope ["held", "kinds"] ["held"] (defScope s__law_refusal) := ⟨rfl, rfl, rfl, by decide +kernel, rfl, by decide +kernel, by decide +kernel⟩
section
variable {P : Program} {w : World} {K : PySem.W.Frag} {mg : Str → Option Value} {base : Heap}
def errs : List (Str × Str) := [("BadKey", "key"), ("BadText", "text"), ("BadSize", "size"), ("BadPlace", "place")]
def sp_law_refusal (K : PySem.W.Frag) : Sp := fun vs H Q _ => ∃ (a : Addr) (e w : Str), vs = [.ref a] ∧ (e, w) ∈ errs ∧ H a = some (XO (.ref (He.ga K e)) none a) ∧ ∀ (t : Addr) (H' : Hp), H t = none → Same H H' → H' t = some (.tup [.str "refused", .str w]) → Q (.ref t) H'
theorem f__law_refusal (T : Tx K mg) : Fn P w K mg base "_law_refusal" 1 ["held"] (sp_law_refusal K) := by
  obtain ⟨fd, F⟩ := T.c.d.def_ 11 (d := d__law_refusal) rfl
  refine ⟨_, fd, F.ok (CX := L2.CX P w) sc__law_refusal (fun vs H Q E h => ?len) (fun cdv A outer s H vs Q E hr h => ?body), T.g__law_refusal, F.kp, F.bindsN fun _ _ _ _ _ _ us hl => match us, hl with | [_], _ => rfl, FunD.bindsA F fun _ _ _ _ _ _ us hl => match us, hl with | [_], _ => rfl⟩
  case len => obtain ⟨a, e, w, rfl, hw, ha, k⟩ := h; rfl
  case body =>
    obtain ⟨a, e, w, rfl, hw, ha, k⟩ := h
    refine ⟨_, (pss_cons (ps_if (pt_cmpR op_isNon (pv 0) pe_non (nomark _)) (pss_one (ps_ret (pe_tup (pa_cons pe_str pa_nil)))) pss_nil)
      (pss_cons (ps_set (i := 1) sc__law_refusal.nd rfl (Or.inl rfl) (pe_lst (pa_cons (pe_callB (call_isXK (K := K) rfl) rfl T.n_isinstance (by decide +kernel) (pa_cons (pv 0) (pa_cons (pe_gref T.g_BadKey) pa_nil))) (pa_cons (pe_callB (call_isXK (K := K) rfl) rfl T.n_isinstance (by decide +kernel) (pa_cons (pv 0) (pa_cons (pe_gref T.g_BadText) pa_nil))) (pa_cons (pe_callB (call_isXK (K := K) rfl) rfl T.n_isinstance (by decide +kernel) (pa_cons (pv 0) (pa_cons (pe_gref T.g_BadSize) pa_nil))) pa_nil)))))
      (pss_cons (ps_expr (pe_bmK (K := K) rfl PySem.F.plainAttrs_list PySem.F.slot_list_append PySem.F.type_list_append mt_append (pv 1) (pa_cons (pe_callB (call_isXK (K := K) rfl) rfl T.n_isinstance (by decide +kernel) (pa_cons (pv 0) (pa_cons (pe_gref T.g_BadPlace) pa_nil))) pa_nil)))
      (pss_cons (ps_if (PW.pt (pw_or (pt_cmpR op_ne (pe_bmK (K := K) rfl PySem.F.plainAttrs_list PySem.F.slot_list_count PySem.F.type_list_count (mt_countK (K := K) rfl) (pv 1) (pa_cons pe_bl pa_nil)) pe_int (nomark _)) (pw_or1 (pt_not (pt_val (pe_callB (call_isXK (K := K) rfl) rfl T.n_isinstance (by decide +kernel) (pa_cons (pv 0) (pa_cons (pe_bltn (v := .ty "ValueError") rfl T.n_ValueError (by decide +kernel) rfl) pa_nil)))))))) (pss_one (ps_ret (pe_tup (pa_cons pe_str pa_nil)))) pss_nil)
      (pss_one (ps_ret (pe_tup (pa_cons pe_str (pa_cons (pe_ix (ix_listK (K := K) rfl) (pe_lst (pa_cons pe_str (pa_cons pe_str (pa_cons pe_str (pa_cons pe_str pa_nil))))) (pe_bmK (K := K) rfl PySem.F.plainAttrs_list PySem.F.slot_list_index PySem.F.type_list_index (mt_indexK (K := K) rfl) (pv 1) (pa_cons pe_bl pa_nil)) (fun _ _ => rfl)) pa_nil))))))))), ?_⟩
    simp only [errs, List.mem_cons, Prod.mk.injEq, List.not_mem_nil, or_false] at hw
    rcases hw with ⟨rfl, rfl⟩ | ⟨rfl, rfl⟩ | ⟨rfl, rfl⟩ | ⟨rfl, rfl⟩
    · walk_at "z"
      refine z_isX ha T.ex_BadKey (.own _) T.k_BadKey_BadKey ?_
      walk_at "z"
      refine z_isX ha T.ex_BadKey (.own _) T.k_BadKey_BadText ?_
      walk_at "z"
      refine z_isX ha T.ex_BadKey (.own _) T.k_BadKey_BadSize ?_
      walk_at "z"
      intro l hl
      have hal := ne_of_none ha hl
      have ha1 : upd H l (.lst [.bl true, .bl false, .bl false]) a = some (XO (.ref (He.ga K "BadKey")) none a) := by rw [upd_ne hal]; exact ha
      walk_at "z"
      refine z_isX ha1 T.ex_BadKey (.own _) T.k_BadKey_BadPlace ?_
      walk_at "z"
      have ha2 : ∀ o, upd (upd H l (.lst [.bl true, .bl false, .bl false])) l o a = some (XO (.ref (He.ga K "BadKey")) none a) := fun o => by rw [upd_ne hal]; exact ha1
      refine z_count (SqL.of upd_same) rfl rfl ?_
      walk_at "z"
      refine z_isX (ha2 _) T.ex_BadKey (.ty _) T.kv_BadKey ?_
      walk_at "z"
      intro b hb
      obtain ⟨nbl, hb1⟩ := un_fresh hb
      obtain ⟨_, hb2⟩ := un_fresh hb1
      walk_at "z"
      refine z_index 0 (z := .bl true) (SqL.of (by rw [upd_ne nbl.symm]; exact upd_same)) rfl rfl rfl rfl ?_ ?_
      · intro m z' hm hz
        rcases m with _ | _ | _ | _ | m
        all_goals first | omega | (cases hz; rfl)
      refine z_ixL (SqL.of upd_same) (atI_nat (j := 0) rfl) ?_
      walk_at "z"
      intro t ht
      obtain ⟨ntb, ht1⟩ := un_fresh ht
      obtain ⟨ntl, ht2⟩ := un_fresh ht1
      obtain ⟨_, ht3⟩ := un_fresh ht2
      exact k t _ ht3 (by walk_at "sa") upd_same
    · walk_at "z"
      refine z_isX ha T.ex_BadText (.own _) T.k_BadText_BadKey ?_
      walk_at "z"
      refine z_isX ha T.ex_BadText (.own _) T.k_BadText_BadText ?_
      walk_at "z"
      refine z_isX ha T.ex_BadText (.own _) T.k_BadText_BadSize ?_
      walk_at "z"
      intro l hl
      have hal := ne_of_none ha hl
      have ha1 : upd H l (.lst [.bl false, .bl true, .bl false]) a = some (XO (.ref (He.ga K "BadText")) none a) := by rw [upd_ne hal]; exact ha
      walk_at "z"
      refine z_isX ha1 T.ex_BadText (.own _) T.k_BadText_BadPlace ?_
      walk_at "z"
      have ha2 : ∀ o, upd (upd H l (.lst [.bl false, .bl true, .bl false])) l o a = some (XO (.ref (He.ga K "BadText")) none a) := fun o => by rw [upd_ne hal]; exact ha1
      refine z_count (SqL.of upd_same) rfl rfl ?_
      walk_at "z"
      refine z_isX (ha2 _) T.ex_BadText (.ty _) T.kv_BadText ?_
      walk_at "z"
      intro b hb
      obtain ⟨nbl, hb1⟩ := un_fresh hb
      obtain ⟨_, hb2⟩ := un_fresh hb1
      walk_at "z"
      refine z_index 1 (z := .bl true) (SqL.of (by rw [upd_ne nbl.symm]; exact upd_same)) rfl rfl rfl rfl ?_ ?_
      · intro m z' hm hz
        rcases m with _ | _ | _ | _ | m
        all_goals first | omega | (cases hz; rfl)
      refine z_ixL (SqL.of upd_same) (atI_nat (j := 1) rfl) ?_
      walk_at "z"
      intro t ht
      obtain ⟨ntb, ht1⟩ := un_fresh ht
      obtain ⟨ntl, ht2⟩ := un_fresh ht1
      obtain ⟨_, ht3⟩ := un_fresh ht2
      exact k t _ ht3 (by walk_at "sa") upd_same
    · walk_at "z"
      refine z_isX ha T.ex_BadSize (.own _) T.k_BadSize_BadKey ?_
      walk_at "z"
      refine z_isX ha T.ex_BadSize (.own _) T.k_BadSize_BadText ?_
      walk_at "z"
      refine z_isX ha T.ex_BadSize (.own _) T.k_BadSize_BadSize ?_
      walk_at "z"
      intro l hl
      have hal := ne_of_none ha hl
      have ha1 : upd H l (.lst [.bl false, .bl false, .bl true]) a = some (XO (.ref (He.ga K "BadSize")) none a) := by rw [upd_ne hal]; exact ha
      walk_at "z"
      refine z_isX ha1 T.ex_BadSize (.own _) T.k_BadSize_BadPlace ?_
      walk_at "z"
      have ha2 : ∀ o, upd (upd H l (.lst [.bl false, .bl false, .bl true])) l o a = some (XO (.ref (He.ga K "BadSize")) none a) := fun o => by rw [upd_ne hal]; exact ha1
      refine z_count (SqL.of upd_same) rfl rfl ?_
      walk_at "z"
      refine z_isX (ha2 _) T.ex_BadSize (.ty _) T.kv_BadSize ?_
      walk_at "z"
      intro b hb
      obtain ⟨nbl, hb1⟩ := un_fresh hb
      obtain ⟨_, hb2⟩ := un_fresh hb1
      walk_at "z"
      refine z_index 2 (z := .bl true) (SqL.of (by rw [upd_ne nbl.symm]; exact upd_same)) rfl rfl rfl rfl ?_ ?_
      · intro m z' hm hz
        rcases m with _ | _ | _ | _ | m
        all_goals first | omega | (cases hz; rfl)
      refine z_ixL (SqL.of upd_same) (atI_nat (j := 2) rfl) ?_
      walk_at "z"
      intro t ht
      obtain ⟨ntb, ht1⟩ := un_fresh ht
      obtain ⟨ntl, ht2⟩ := un_fresh ht1
      obtain ⟨_, ht3⟩ := un_fresh ht2
      exact k t _ ht3 (by walk_at "sa") upd_same
    · walk_at "z"
      refine z_isX ha T.ex_BadPlace (.own _) T.k_BadPlace_BadKey ?_
      walk_at "z"
      refine z_isX ha T.ex_BadPlace (.own _) T.k_BadPlace_BadText ?_
      walk_at "z"
      refine z_isX ha T.ex_BadPlace (.own _) T.k_BadPlace_BadSize ?_
      walk_at "z"
      intro l hl
      have hal := ne_of_none ha hl
      have ha1 : upd H l (.lst [.bl false, .bl false, .bl false]) a = some (XO (.ref (He.ga K "BadPlace")) none a) := by rw [upd_ne hal]; exact ha
      walk_at "z"
      refine z_isX ha1 T.ex_BadPlace (.own _) T.k_BadPlace_BadPlace ?_
      walk_at "z"
      have ha2 : ∀ o, upd (upd H l (.lst [.bl false, .bl false, .bl false])) l o a = some (XO (.ref (He.ga K "BadPlace")) none a) := fun o => by rw [upd_ne hal]; exact ha1
      refine z_count (SqL.of upd_same) rfl rfl ?_
      walk_at "z"
      refine z_isX (ha2 _) T.ex_BadPlace (.ty _) T.kv_BadPlace ?_
      walk_at "z"
      intro b hb
      obtain ⟨nbl, hb1⟩ := un_fresh hb
      obtain ⟨_, hb2⟩ := un_fresh hb1
      walk_at "z"
      refine z_index 3 (z := .bl true) (SqL.of (by rw [upd_ne nbl.symm]; exact upd_same)) rfl rfl rfl rfl ?_ ?_
      · intro m z' hm hz
        rcases m with _ | _ | _ | _ | m
        all_goals first | omega | (cases hz; rfl)
      refine z_ixL (SqL.of upd_same) (atI_nat (j := 3) rfl) ?_
      walk_at "z"
      intro t ht
      obtain ⟨ntb, ht1⟩ := un_fresh ht
      obtain ⟨ntl, ht2⟩ := un_fresh ht1
      obtain ⟨_, ht3⟩ := un_fresh ht2
      exact k t _ ht3 (by walk_at "sa") upd_same
end

theorem sc_look_text : FnScope ["text", "sign"] ["text"] (defScope s_look_text) := ⟨rfl, rfl, rfl, by decide +kernel, rfl, by decide +kernel, by decide +kernel⟩
section
variable {P : Program} {w : World} {K : PySem.W.Frag} {mg : Str → Option Value} {base : Heap}
def sp_look_text (K : PySem.W.Frag) : Sp := fun vs H Q E => ∃ s : Str, vs = [.str s] ∧ s.length < sizeLine ∧ (okText s = true → ∀ H', Same H H' → Q .non H') ∧ (okText s = false → ∀ H', Same H H' → E (.ref (He.ga K "BadText")) none H')
theorem f_look_text (T : Tx K mg) : Fn P w K mg base "look_text" 2 ["text"] (sp_look_text K) := by
  obtain ⟨fd, F⟩ := T.c.d.def_ 1 (d := d_look_text) rfl
  refine ⟨_, fd, F.ok (CX := L2.CX P w) sc_look_text (fun vs H Q E h => ?len) (fun cdv A outer s H vs Q E hr h => ?body), T.g_look_text, F.kp, F.bindsN fun _ _ _ _ _ _ us hl => match us, hl with | [_], _ => rfl, FunD.bindsA F fun _ _ _ _ _ _ us hl => match us, hl with | [_], _ => rfl⟩
  case len => obtain ⟨x, rfl, hx, k1, k2⟩ := h; rfl
  case body =>
    obtain ⟨x, rfl, hx, k1, k2⟩ := h
    refine ⟨_, (pss_one (ps_if (PW.pt (pw_or (pt_cmpR op_gt (pe_callB (call_lnK (K := K) rfl) rfl T.n_len boot_len (pa_cons (pv 0) pa_nil)) (pe_gcon T.c_MOST_TEXT) (nomark _)) (pw_or1 (pt_not (pt_val (pe_callB (cr_allK (K := K) rfl rfl) rfl T.n_all (by decide +kernel) (pa_cons (pe_lc (own := [("sign", 1)]) rfl sc_look_text.nd (pi_str (pv 0)) (blkOk_by (N := ["text", "sign"]) (sc := defScope s_look_text) (by decide +kernel)) (fun _ _ _ _ _ => (pg_name (i := 1) sc_look_text.nd rfl (Or.inl rfl))) (fun _ _ _ _ _ => pts_nil) (fun _ _ _ _ _ => (pe_fn (f_is_sign T) (hr.mono (by decide)) takes0 (pa_cons (pv 1) pa_nil)))) pa_nil))))))) (pss_one (ps_rs rfl tkOf T.x_BadText T.g_BadText)) pss_nil)), ?_⟩
    have hx' : x.length ≤ sizeLine := Nat.le_of_lt hx
    walk_at "z"
    refine ite_b (fun h1 => ?_) (fun h1 => ?_)
    · have h1' := of_decide_eq_true h1
      walk_at "z"
      refine k2 ?_ _ (Same.refl _)
      unfold okText
      rw [decide_eq_false (by omega)]; rfl
    · have h1' := of_decide_eq_false h1
      walk_at "z"
      intro D hD
      refine lc_strP (fun c => .bl (okc c)) hx (fun _ => rfl) hD (fun c H2 Q2 hs k => ?_) ?_
      · walk_at "z"
        exact ⟨_, rfl, by show 1 ≤ sizeLine; decide, k⟩
      · have hs : Same H (upd H D (.lst ((tl x).map fun c => V.bl (okc c)))) := fun b o e => by rw [upd_ne (ne_of_none e hD)]; exact e
        walk_at "z"
        refine z_all ((tl x).map okc) (by rw [List.map_map]; exact SqL.of upd_same) ?_
        walk_at "z"
        have e : okText x = ((tl x).map okc).all id := by
          unfold okText
          rw [decide_eq_true (by omega), Bool.true_and, List.all_map]; rfl
        refine ite_b (fun h2 => ?_) (fun h2 => ?_)
        · walk_at "z"
          exact k2 (by rw [e]; simpa using h2) _ hs
        · walk_at "z"
          exact k1 (by rw [e]; simpa using h2) _ hs
end

theorem sc__law_mix : FnScope ["script", "k", "number"] ["script", "k"] (defScope s__law_mix) := ⟨rfl, rfl, rfl, by decide +kernel, rfl, by decide +kernel, by decide +kernel⟩
section
variable {P : Program} {w : World} {K : PySem.W.Frag} {mg : Str → Option Value} {base : Heap}
def sp_law_mix (K : PySem.W.Frag) : Sp := fun vs H Q _ => ∃ (a : Addr) (ns : List Int) (k : Int), vs = [.ref a, .int k] ∧ Scr K H a ns ∧ ∀ z : Int, 0 ≤ z → Q (.int z) H
theorem f__law_mix (T : Tx K mg) : Fn P w K mg base "_law_mix" 2 ["script", "k"] (sp_law_mix K) := by
  obtain ⟨fd, F⟩ := T.c.d.def_ 8 (d := d__law_mix) rfl
  refine ⟨_, fd, F.ok (CX := L2.CX P w) sc__law_mix (fun vs H Q E h => ?len) (fun cdv A outer s H vs Q E hr h => ?body), T.g__law_mix, F.kp, F.bindsN fun _ _ _ _ _ _ us hl => match us, hl with | [_, _], _ => rfl, FunD.bindsA F fun _ _ _ _ _ _ us hl => match us, hl with | [_, _], _ => rfl⟩
  case len => obtain ⟨a, ns, n, rfl, hs, k⟩ := h; rfl
  case body =>
    obtain ⟨a, ns, n, rfl, hs, k⟩ := h
    refine ⟨_, (pss_cons (ps_set (i := 2) sc__law_mix.nd rfl (Or.inl rfl) (pe_op op_mod (pe_op op_add (pe_fn (f__law_cell T) (hr.mono (by decide)) tkOf (pa_cons (pv 0) (pa_cons (pv 1) pa_nil))) (pe_op op_mul pe_int (pe_op op_add (pv 1) pe_int))) pe_int))
      (pss_cons (ps_set (i := 2) sc__law_mix.nd rfl (Or.inl rfl) (pe_op op_mod (pe_op op_pow (pv 2) pe_int) pe_int))
      (pss_one (ps_ret (pe_op op_mod (pe_op op_add (pe_op op_mul (pe_op op_fdiv (pv 2) pe_int) pe_int) (pv 2)) pe_int))))), ?_⟩
    walk_at "z"
    refine ⟨a, ns, n, rfl, hs, fun z => ?_⟩
    walk_at "z"
    refine z_i (.inl ⟨by decide, by decide⟩) ?_
    walk_at "z"
    refine z_i (by decide) ?_
    walk_at "z"
    have b1 := Int.emod_nonneg (z + 104729 * (n + 1)) (show (4294967291 : Int) ≠ 0 by decide)
    have b2 := Int.emod_lt_of_pos (z + 104729 * (n + 1)) (show (0 : Int) < 4294967291 by decide)
    refine z_i ⟨by decide, by decide, by omega⟩ ?_
    walk_at "z"
    refine z_i (by decide) ?_
    walk_at "z"
    refine z_i ⟨by decide, by decide⟩ ?_
    walk_at "z"
    refine z_i (.inr ⟨by decide, by decide⟩) ?_
    walk_at "z"
    refine z_i (by decide) ?_
    exact k _ (Int.emod_nonneg _ (by decide))
end

theorem sc_Filler_init : FnScope ["self", "words", "word"] ["self", "words"] (defScope s_Filler_init) := ⟨rfl, rfl, rfl, by decide +kernel, rfl, by decide +kernel, by decide +kernel⟩
section
variable {P : Program} {w : World} {K : PySem.W.Frag} {mg : Str → Option Value} {base : Heap}
def sp_Filler_init (K : PySem.W.Frag) : Sp := fun vs H Q E => ∃ (p dx q : Addr) (xs : List Str), vs = [.ref p, .ref q] ∧ H p = some (.ins (He.ga K "Filler") dx []) ∧ SqL K H q (xs.map V.str) ∧ (∀ x ∈ xs, x.length < sizeLine) ∧ xs.length < 1000 ∧
  (fillOk xs = true → xs.length < 64 ∧ ∀ H' l ws, H l = none → FillAt K H' p l ws → Srt ws xs → ws.length ≤ xs.length → Fr [p] H H' → Q .non H') ∧ (fillOk xs = false → ∀ H', Same H H' → E (.ref (He.ga K "BadText")) none H')
theorem mk_Filler (T : Tx K mg) : Mkr P w K mg base "Filler" (He.ga K "Filler") 3 ["self", "words"] (sp_Filler_init K) := by
  obtain ⟨fd, F⟩ := T.c.d.def_ 3 (d := d_Filler_init) rfl
  refine ⟨_, fd, F.ok (CX := L2.CX P w) sc_Filler_init (fun vs H Q E h => ?len) (fun cdv A outer s H vs Q E hr h => ?body), T.mr_Filler, T.g_Filler, F.bindsN fun _ _ _ _ _ _ us hl => match us, hl with | [_, _], _ => rfl⟩
  case len => obtain ⟨p, dx, q, xs, rfl, hp, hq, hxl, hxn, k1, k2⟩ := h; rfl
  case body =>
    obtain ⟨p, dx, q, xs, rfl, hp, hq, hxl, hxn, k1, k2⟩ := h
    refine ⟨_, (pss_cons (ps_if (pt_cmpR op_gt (pe_callB (call_lnK (K := K) rfl) rfl T.n_len boot_len (pa_cons (pv 1) pa_nil)) (pe_gcon T.c_MOST_WORDS) (nomark _)) (pss_one (ps_rs rfl tkOf T.x_BadText T.g_BadText)) pss_nil)
      (pss_cons (ps_for passOf rfl (pi_listK (K := K) rfl (pv 1)) (pg_name (i := 2) sc_Filler_init.nd rfl (Or.inl rfl)) (pss_cons (ps_expr (pe_fn (f_look_text T) (hr.mono (by decide)) tkOf (pa_cons (pv 2) pa_nil)))
      (pss_one (ps_if (PW.pt (pw_or (pt_cmpR op_eq (pv 2) pe_str (nomark _)) (pw_or1 (pt_cmpR op_inStr pe_str (pv 2) rfl)))) (pss_one (ps_rs rfl tkOf T.x_BadText T.g_BadText)) pss_nil))))
      (pss_one (ps_put T.cl_Filler T.na_Filler_words (pv 0) (pe_sortSet (K := K) rfl rfl T.n_sorted T.n_set (pv 1)))))), ?_⟩
    walk_at "z"
    rw [List.length_map]
    refine ite_b (fun h1 => ?_) (fun h1 => ?_)
    · have h1' := of_decide_eq_true h1
      walk_at "z"
      refine k2 ?_ H (Same.refl _)
      unfold fillOk; rw [decide_eq_false (by omega)]; rfl
    · have h1' := of_decide_eq_false h1
      have e200 : decide (xs.length ≤ 200) = true := decide_eq_true (by omega)
      walk_at "z"
      refine fg_list (K := K) (xs := xs.map V.str) (fun i σ' H' => ∃ v2, σ' = [some (.ref p), some (.ref q), v2] ∧ Same H H' ∧ (xs.take i).all wordOk = true) ⟨none, rfl, Same.refl _, rfl⟩ ?_ ?_ ?_
      · rintro i σ' H' _ ⟨v2, _, s, _⟩
        exact Evl.ex_l s hq
      · rintro i v σ' H1 hv ⟨v2, rfl, s1, al⟩
        rw [List.getElem?_map] at hv
        obtain ⟨x, hx, rfl⟩ := Option.map_eq_some_iff.mp hv
        have hxm := List.mem_of_getElem? hx
        have bad : wordOk x = false → fillOk xs = false := fun z => by
          unfold fillOk
          rw [e200, Bool.true_and]
          cases g : xs.all wordOk with
          | false => rfl
          | true => rw [List.all_eq_true.mp g x hxm] at z; cases z
        have hx4 := hxl x hxm
        walk_at "z"
        refine ⟨x, rfl, hx4, fun ok H2 s2 => ?_, fun nok H2 s2 => k2 (bad (by unfold wordOk; rw [nok]; rfl)) H2 (Same.trans s1 s2)⟩
        walk_at "z"
        refine ite_b (fun h2 => ?_) (fun h2 => ?_)
        · walk_at "z"
          refine k2 (bad ?_) H2 (Same.trans s1 s2)
          have : x = "" := by simpa using h2
          unfold wordOk; rw [decide_eq_true this]; simp
        · have h2' : ¬ x = "" := by simpa using h2
          walk_at "z"
          have eb : (!(Builtin.Str.occurrences x " " 0 x.length 1).isEmpty) = decide (32 ∈ tl x) := StrLaws.found_one x 32
          rw [eb]
          refine ite_b (fun h3 => ?_) (fun h3 => ?_)
          · walk_at "z"
            refine k2 (bad ?_) H2 (Same.trans s1 s2)
            unfold wordOk; rw [h3]; simp
          · walk_at "z"
            refine ⟨_, rfl, Same.trans s1 s2, ?_⟩
            rw [List.take_succ, hx, Option.toList_some, List.all_append, al]
            show (true && (wordOk x && true)) = true
            unfold wordOk
            rw [ok, h3, decide_eq_false h2']; rfl
      rintro σ' H1 ⟨v2, rfl, s1, al⟩
      rw [List.length_map, List.take_length] at al
      obtain ⟨few, k⟩ := k1 (by unfold fillOk; rw [e200, al]; rfl)
      have hp1 := s1 _ _ hp
      walk_at "z"
      refine ⟨q, xs, rfl, Evl.ex_l s1 hq, few, fun l ws hl pm sr => ?_⟩
      have npl := ne_of_none hp1 hl
      walk_at "z"
      refine k _ l ws (fresh_of s1 hl) ⟨⟨dx, by walk_at "h"⟩, by walk_at "h"⟩ (.of pm sr) (Srt.len pm) ((Fr.same s1).trans (by walk_at "fr"))
end

theorem sc_Filler_start : FnScope ["self", "text", "at"] ["self", "text", "at"] (defScope s_Filler_start) := ⟨rfl, rfl, rfl, by decide +kernel, rfl, by decide +kernel, by decide +kernel⟩
section
variable {P : Program} {w : World} {K : PySem.W.Frag} {mg : Str → Option Value} {base : Heap}
def sp_Filler_start (K : PySem.W.Frag) : Sp := fun vs H Q E => ∃ (p : Addr) (x : Str) (a : Int), vs = [.ref p, .str x, .int a] ∧ x.length < sizeLine ∧ (okText x = true → LineS.place x a → ∀ H', Same H H' → Q (.int (fStart (tl x) a.toNat : Nat)) H') ∧ (okText x = false → ∀ H', Same H H' → E (.ref (He.ga K "BadText")) none H') ∧ (okText x = true → ¬ LineS.place x a → ∀ H', Same H H' → E (.ref (He.ga K "BadPlace")) none H')
theorem m_Filler_start (T : Tx K mg) : Mt P w K mg base (He.ga K "Filler") "start" 3 ["self", "text", "at"] (sp_Filler_start K) := by
  obtain ⟨fd, F⟩ := T.c.d.def_ 4 (d := d_Filler_start) rfl
  refine ⟨_, fd, F.ok (CX := L2.CX P w) sc_Filler_start (fun vs H Q E h => ?len) (fun cdv A outer s H vs Q E hr h => ?body), T.me_Filler_start, T.cl_Filler, F.bindsN fun _ _ _ _ _ _ us hl => match us, hl with | [_, _, _], _ => rfl⟩
  case len => obtain ⟨p, x, a, rfl, hx, k1, k2, k3⟩ := h; rfl
  case body =>
    obtain ⟨p, x, a, rfl, hx, k1, k2, k3⟩ := h
    refine ⟨_, (pss_cons (ps_expr (pe_fn (f_look_text T) (hr.mono (by decide)) tkOf (pa_cons (pv 1) pa_nil)))
      (pss_cons (ps_expr (pe_fn (f_look_place T) (hr.mono (by decide)) tkOf (pa_cons (pv 1) (pa_cons (pv 2) pa_nil))))
      (pss_one (ps_ret (pe_op op_add (pe_bmK (K := K) rfl PySem.F.plainAttrs_str PySem.F.slot_str_rfind PySem.F.type_str_rfind mt_rfind4N (pv 1) (pa_cons pe_str (pa_cons pe_int (pa_cons (pv 2) pa_nil)))) pe_int))))), ?_⟩
    walk_at "z"
    refine ⟨x, rfl, hx, fun ok H1 s1 => ?_, fun bad H1 s1 => k2 bad H1 s1⟩
    walk_at "z"
    refine ⟨x, a, rfl, Nat.le_of_lt hx, fun pl => ?_, fun bad => k3 ok bad _ s1⟩
    have kk := k1 ok pl H1 s1
    obtain ⟨n, rfl⟩ := Int.eq_ofNat_of_zero_le pl.1
    walk_at "z"
    rw [show ((n : Int)).toNat = n by omega] at kk
    rw [rfind_start (x := x) (a := n) (by have := pl.2; omega)]
    exact kk
end

theorem sc__law_draw : FnScope ["script", "town", "many"] ["script", "town", "many"] (defScope s__law_draw) := ⟨rfl, rfl, rfl, by decide +kernel, rfl, by decide +kernel, by decide +kernel⟩
section
variable {P : Program} {w : World} {K : PySem.W.Frag} {mg : Str → Option Value} {base : Heap}
/-- the town: a list that grows by one at each draw -/
def sp_law_draw (K : PySem.W.Frag) : Sp := fun vs H Q _ => ∃ (a t : Addr) (ns : List Int) (zs : List V) (m : Int), vs = [.ref a, .ref t, .int m] ∧ Scr K H a ns ∧ H t = some (.lst zs) ∧ zs.length < 100000 ∧ 0 < m ∧ ∀ (d : Int) (H' : Hp), 0 ≤ d → d < m → H' t = some (.lst (zs ++ [.int 0])) → Fr [t] H H' → Q (.int d) H'
theorem draw_bs {H : Hp} {Q : VK} {E : XK} {a t : Addr} {ns : List Int} {n : Nat} {m : Int} (B : Bs K H a t ns n) (hn : n < 100000) (hm : 0 < m) (k : ∀ (d : Int) (H' : Hp), 0 ≤ d → d < m → Bs K H' a t ns (n + 1) → Fr [t] H H' → Q (.int d) H') : sp_law_draw K [.ref a, .ref t, .int m] H Q E := by
  obtain ⟨hs, zs, tz, hz⟩ := id B
  exact ⟨a, t, ns, zs, m, rfl, hs, tz, by omega, hm, fun d H' d0 d1 t' f' => k d H' d0 d1 ⟨hs.fr f' B.wrs.mu, _, t', by simp; omega⟩ f'⟩
theorem f__law_draw (T : Tx K mg) : Fn P w K mg base "_law_draw" 3 ["script", "town", "many"] (sp_law_draw K) := by
  obtain ⟨fd, F⟩ := T.c.d.def_ 9 (d := d__law_draw) rfl
  refine ⟨_, fd, F.ok (CX := L2.CX P w) sc__law_draw (fun vs H Q E h => ?len) (fun cdv A outer s H vs Q E hr h => ?body), T.g__law_draw, F.kp, F.bindsN fun _ _ _ _ _ _ us hl => match us, hl with | [_, _, _], _ => rfl, FunD.bindsA F fun _ _ _ _ _ _ us hl => match us, hl with | [_, _, _], _ => rfl⟩
  case len => obtain ⟨a, t, ns, zs, m, rfl, hs, ht, hz, hm, k⟩ := h; rfl
  case body =>
    obtain ⟨a, t, ns, zs, m, rfl, hs, ht, hz, hm, k⟩ := h
    refine ⟨_, (pss_cons (ps_expr (pe_bmK (K := K) rfl PySem.F.plainAttrs_list PySem.F.slot_list_append PySem.F.type_list_append mt_append (pv 1) (pa_cons pe_int pa_nil)))
      (pss_one (ps_ret (pe_op op_mod (pe_op op_fdiv (pe_fn (f__law_mix T) (hr.mono (by decide)) tkOf (pa_cons (pv 0) (pa_cons (pe_callB (call_lnK (K := K) rfl) rfl T.n_len boot_len (pa_cons (pv 1) pa_nil)) pa_nil))) pe_int) (pv 2))))), ?_⟩
    walk_at "z"
    refine ⟨a, ns, _, rfl, hs.upd (Mu.lst ht), fun z hz0 => ?_⟩
    walk_at "z"
    refine z_i ⟨by decide, by decide⟩ ?_
    walk_at "z"
    exact z_i hm (k _ _ (Int.emod_nonneg _ (by omega)) (Int.emod_lt_of_pos _ hm) upd_same (by walk_at "fr"))
end

theorem sc_Filler_fitting : FnScope ["self", "text", "at", "part", "word"] ["self", "text", "at"] (defScope s_Filler_fitting) := ⟨rfl, rfl, rfl, by decide +kernel, rfl, by decide +kernel, by decide +kernel⟩
section
variable {P : Program} {w : World} {K : PySem.W.Frag} {mg : Str → Option Value} {base : Heap}
theorem cut_part {x : Str} {n : Nat} (h : n ≤ (tl x).length) : cutS x (some ((fStart (tl x) n : Nat) : Int)) (some ((n : Nat) : Int)) = fPart x n := by
  rw [cutS_eq, cutL_mid _ (by omega) (by omega)]
  unfold fPart
  rw [show ((n : Int)).toNat - ((fStart (tl x) n : Nat) : Int).toNat = n - fStart (tl x) n by omega, show ((fStart (tl x) n : Nat) : Int).toNat = fStart (tl x) n by omega]
def sp_Filler_fitting (K : PySem.W.Frag) : Sp := fun vs H Q E => ∃ (p l : Addr) (ws : List Str) (x : Str) (a : Int), vs = [.ref p, .str x, .int a] ∧ FillAt K H p l ws ∧ ws.length < 1000 ∧ x.length < sizeLine ∧ (okText x = true → LineS.place x a → ∀ H' r, H r = none → Same H H' → H' r = some (.lst ((fFit ws (fPart x a.toNat)).map V.str)) → Q (.ref r) H') ∧ (okText x = false → ∀ H', Same H H' → E (.ref (He.ga K "BadText")) none H') ∧ (okText x = true → ¬ LineS.place x a → ∀ H', Same H H' → E (.ref (He.ga K "BadPlace")) none H')
theorem m_Filler_fitting (T : Tx K mg) : Mt P w K mg base (He.ga K "Filler") "fitting" 4 ["self", "text", "at"] (sp_Filler_fitting K) := by
  obtain ⟨fd, F⟩ := T.c.d.def_ 5 (d := d_Filler_fitting) rfl
  refine ⟨_, fd, F.ok (CX := L2.CX P w) sc_Filler_fitting (fun vs H Q E h => ?len) (fun cdv A outer s H vs Q E hr h => ?body), T.me_Filler_fitting, T.cl_Filler, F.bindsN fun _ _ _ _ _ _ us hl => match us, hl with | [_, _, _], _ => rfl⟩
  case len => obtain ⟨p, l, ws, x, a, rfl, R, hws, hx, k1, k2, k3⟩ := h; rfl
  case body =>
    obtain ⟨p, l, ws, x, a, rfl, R, hws, hx, k1, k2, k3⟩ := h
    refine ⟨_, (pss_cons (ps_set (i := 3) sc_Filler_fitting.nd rfl (Or.inr rfl) (pe_slice sl_str (pv 1) (po_some (pe_mt (pv 0) (m_Filler_start T) (hr.mono (by decide)) tkOf (pa_cons (pv 1) (pa_cons (pv 2) pa_nil)))) (po_some (pv 2))))
      (pss_one (ps_ret (pe_lc (own := [("word", 4)]) rfl sc_Filler_fitting.nd (pi_listK (K := K) rfl (pe_get T.cl_Filler T.na_Filler_words (pv 0))) (blkOk_by (N := ["self", "text", "at", "part", "word"]) (sc := defScope s_Filler_fitting) (by decide +kernel)) (fun _ _ _ _ _ => (pg_name (i := 4) sc_Filler_fitting.nd rfl (Or.inl rfl))) (fun _ _ _ _ _ => (pts_one (pt_val (pe_bmK (K := K) rfl PySem.F.plainAttrs_str PySem.F.slot_str_startswith PySem.F.type_str_startswith mt_startsN (pv 4) (pa_cons (pv 3) pa_nil))))) (fun _ _ _ _ _ => (pv 4)))))), ?_⟩
    obtain ⟨dx, ho⟩ := R.ob
    walk_at "z"
    refine ⟨p, x, a, rfl, hx, fun ok pl H1 s1 => ?_, k2, k3⟩
    have kk := k1 ok pl
    clear k1 k2 k3
    have e := len_tl x
    obtain ⟨n, rfl⟩ := Int.eq_ofNat_of_zero_le pl.1
    have hn : n ≤ (tl x).length := by have := pl.2; omega
    have hl := okText_len ok
    rw [show ((n : Int)).toNat = n by omega] at kk ⊢
    obtain ⟨⟨dx, ho⟩, hls⟩ := R.same s1
    walk_at "z"
    rw [cut_part hn]
    walk_at "z"
    intro D hD
    refine lc_lstP (xs := ws.map V.str) (fun v => match v with | .str w => Txt.startswith w (fPart x n) | _ => false) id (SqL.of hls) (by rw [List.length_map]; omega) (by intro v; rfl) hD ?_ ?_ ?_
    · intro v hv H2 Q2 s2 q
      obtain ⟨w, _, rfl⟩ := mem_strs hv
      walk_at "z"
      exact q
    · intro v hv H2 Q2 _ s2 q
      walk_at "z"
      exact q
    refine kk _ D (fresh_of s1 hD) (Same.new s1 hD) ?_
    rw [upd_same]
    unfold fFit
    rw [List.filter_map, List.map_map]
    rfl
end

theorem sc__law_pick : FnScope ["script", "town", "some"] ["script", "town", "some"] (defScope s__law_pick) := ⟨rfl, rfl, rfl, by decide +kernel, rfl, by decide +kernel, by decide +kernel⟩
section
variable {P : Program} {w : World} {K : PySem.W.Frag} {mg : Str → Option Value} {base : Heap}
def sp_law_pick (K : PySem.W.Frag) : Sp := fun vs H Q _ => ∃ (a t q : Addr) (ns : List Int) (zs xs : List V), vs = [.ref a, .ref t, .ref q] ∧ Scr K H a ns ∧ H t = some (.lst zs) ∧ zs.length < 100000 ∧ H q = some (.lst xs) ∧ xs ≠ [] ∧ q ≠ t ∧ ∀ v ∈ xs, ∀ H', H' t = some (.lst (zs ++ [.int 0])) → Fr [t] H H' → Q v H'
theorem pick_bs {H : Hp} {Q : VK} {E : XK} {a t q : Addr} {ns : List Int} {n : Nat} {xs : List V} (B : Bs K H a t ns n) (hn : n < 100000) (hq : H q = none) (hx : xs ≠ []) (k : ∀ v ∈ xs, ∀ (H' : Hp), Bs K H' a t ns (n + 1) → Fr [t] H H' → Q v H') : sp_law_pick K [.ref a, .ref t, .ref q] (upd H q (.lst xs)) Q E := by
  have s0 : Same H (upd H q (.lst xs)) := Same.new (Same.refl H) hq
  obtain ⟨hs, zs, tz, hz⟩ := id (B.same s0)
  obtain ⟨_, zs0, tz0, _⟩ := id B
  exact ⟨a, t, q, ns, zs, xs, rfl, hs, tz, by omega, upd_same, hx, (ne_of_none tz0 hq).symm, fun v hv H' t' f' => k v hv H' ⟨hs.fr f' (B.same s0).wrs.mu, _, t', by simp; omega⟩ ((Fr.same s0).trans f')⟩
theorem pick_old {H : Hp} {Q : VK} {E : XK} {a t q : Addr} {ns : List Int} {n : Nat} {xs : List V} (B : Bs K H a t ns n) (hn : n < 100000) (hq : H q = some (.lst xs)) (hqt : q ≠ t) (hx : xs ≠ []) (k : ∀ v ∈ xs, ∀ (H' : Hp), Bs K H' a t ns (n + 1) → Fr [t] H H' → Q v H') : sp_law_pick K [.ref a, .ref t, .ref q] H Q E := by
  obtain ⟨hs, zs, tz, hz⟩ := id B
  exact ⟨a, t, q, ns, zs, xs, rfl, hs, tz, by omega, hq, hx, hqt, fun v hv H' t' f' => k v hv H' ⟨hs.fr f' B.wrs.mu, _, t', by simp; omega⟩ f'⟩
theorem f__law_pick (T : Tx K mg) : Fn P w K mg base "_law_pick" 4 ["script", "town", "some"] (sp_law_pick K) := by
  obtain ⟨fd, F⟩ := T.c.d.def_ 10 (d := d__law_pick) rfl
  refine ⟨_, fd, F.ok (CX := L2.CX P w) sc__law_pick (fun vs H Q E h => ?len) (fun cdv A outer s H vs Q E hr h => ?body), T.g__law_pick, F.kp, F.bindsN fun _ _ _ _ _ _ us hl => match us, hl with | [_, _, _], _ => rfl, FunD.bindsA F fun _ _ _ _ _ _ us hl => match us, hl with | [_, _, _], _ => rfl⟩
  case len => obtain ⟨a, t, q, ns, zs, xs, rfl, hs, ht, hz, hq, hx, hqt, k⟩ := h; rfl
  case body =>
    obtain ⟨a, t, q, ns, zs, xs, rfl, hs, ht, hz, hq, hx, hqt, k⟩ := h
    refine ⟨_, (pss_one (ps_ret (pe_ix (ix_listK (K := K) rfl) (pv 2) (pe_fn (f__law_draw T) (hr.mono (by decide)) tkOf (pa_cons (pv 0) (pa_cons (pv 1) (pa_cons (pe_callB (call_lnK (K := K) rfl) rfl T.n_len boot_len (pa_cons (pv 2) pa_nil)) pa_nil)))) (fun _ _ => rfl)))), ?_⟩
    have hxl : 0 < xs.length := List.length_pos_iff.mpr hx
    walk_at "z"
    refine ⟨a, t, ns, zs, _, rfl, hs, ht, hz, by omega, fun d H' h0 h1 ht' f' => ?_⟩
    obtain ⟨j, rfl⟩ := Int.eq_ofNat_of_zero_le h0
    have hj : j < xs.length := by omega
    exact z_ixL (SqL.of (f' _ _ hq (not_mem1 hqt))) (atI_nat (List.getElem?_eq_getElem hj)) (k _ (List.getElem_mem hj) _ ht' f')
end

theorem sc_Filler_common : FnScope ["self", "text", "at", "some", "found", "word"] ["self", "text", "at"] (defScope s_Filler_common) := ⟨rfl, rfl, rfl, by decide +kernel, rfl, by decide +kernel, by decide +kernel⟩
section
variable {P : Program} {w : World} {K : PySem.W.Frag} {mg : Str → Option Value} {base : Heap}
theorem take_starts {s0 : Str} {ws : List Str} {n : Nat} (h : n ≤ (tl s0).length) : wk s0 ws n = ws.all fun w => Txt.startswith w (S ((tl s0).take n)) := by
  unfold wk
  congr 1
  funext w
  rw [starts_eq, tl_S, List.length_take, Nat.min_eq_left h]
def sp_Filler_common (K : PySem.W.Frag) : Sp := fun vs H Q E => ∃ (p l : Addr) (ws : List Str) (x : Str) (a : Int), vs = [.ref p, .str x, .int a] ∧ FillAt K H p l ws ∧ ws.length < 1000 ∧ (∀ w ∈ ws, w.length ≤ 400) ∧ x.length < sizeLine ∧ (okText x = true → LineS.place x a → ∀ H', Same H H' → Q (.str (fCommon (fFit ws (fPart x a.toNat)) (fPart x a.toNat))) H') ∧ (okText x = false → ∀ H', Same H H' → E (.ref (He.ga K "BadText")) none H') ∧ (okText x = true → ¬ LineS.place x a → ∀ H', Same H H' → E (.ref (He.ga K "BadPlace")) none H')
theorem m_Filler_common (T : Tx K mg) : Mt P w K mg base (He.ga K "Filler") "common" 5 ["self", "text", "at"] (sp_Filler_common K) := by
  obtain ⟨fd, F⟩ := T.c.d.def_ 6 (d := d_Filler_common) rfl
  refine ⟨_, fd, F.ok (CX := L2.CX P w) sc_Filler_common (fun vs H Q E h => ?len) (fun cdv A outer s H vs Q E hr h => ?body), T.me_Filler_common, T.cl_Filler, F.bindsN fun _ _ _ _ _ _ us hl => match us, hl with | [_, _, _], _ => rfl⟩
  case len => obtain ⟨p, l, ws, x, a, rfl, R, hws, hw4, hx, k1, k2, k3⟩ := h; rfl
  case body =>
    obtain ⟨p, l, ws, x, a, rfl, R, hws, hw4, hx, k1, k2, k3⟩ := h
    refine ⟨_, (pss_cons (ps_set (i := 3) sc_Filler_common.nd rfl (Or.inr rfl) (pe_mt (pv 0) (m_Filler_fitting T) (hr.mono (by decide)) tkOf (pa_cons (pv 1) (pa_cons (pv 2) pa_nil))))
      (pss_cons (ps_set (i := 4) sc_Filler_common.nd rfl (Or.inr rfl) (pe_slice sl_str (pv 1) (po_some (pe_mt (pv 0) (m_Filler_start T) (hr.mono (by decide)) tkOf (pa_cons (pv 1) (pa_cons (pv 2) pa_nil)))) (po_some (pv 2))))
      (pss_cons (ps_if (pt_not (pt_trK (K := K) rfl (pv 3))) (pss_one (ps_ret (pv 4))) pss_nil)
      (pss_cons (ps_while passOf (PW.pt (pw_and (pt_cmpR op_lt (pe_callB (call_lnK (K := K) rfl) rfl T.n_len boot_len (pa_cons (pv 4) pa_nil)) (pe_callB (call_lnK (K := K) rfl) rfl T.n_len boot_len (pa_cons (pe_ix (ix_listK (K := K) rfl) (pv 3) pe_int (fun _ _ => rfl)) pa_nil)) (nomark _)) (pw_and1 (pt_val (pe_callB (cr_allK (K := K) rfl rfl) rfl T.n_all (by decide +kernel) (pa_cons (pe_lc (own := [("word", 5)]) rfl sc_Filler_common.nd (pi_listK (K := K) rfl (pv 3)) (blkOk_by (N := ["self", "text", "at", "some", "found", "word"]) (sc := defScope s_Filler_common) (by decide +kernel)) (fun _ _ _ _ _ => (pg_name (i := 5) sc_Filler_common.nd rfl (Or.inl rfl))) (fun _ _ _ _ _ => pts_nil) (fun _ _ _ _ _ => (pe_bmK (K := K) rfl PySem.F.plainAttrs_str PySem.F.slot_str_startswith PySem.F.type_str_startswith mt_startsN (pv 5) (pa_cons (pe_slice sl_str (pe_ix (ix_listK (K := K) rfl) (pv 3) pe_int (fun _ _ => rfl)) po_none (po_some (pe_op op_add (pe_callB (call_lnK (K := K) rfl) rfl T.n_len boot_len (pa_cons (pv 4) pa_nil)) pe_int))) pa_nil)))) pa_nil)))))) (pss_one (ps_set (i := 4) sc_Filler_common.nd rfl (Or.inr rfl) (pe_slice sl_str (pe_ix (ix_listK (K := K) rfl) (pv 3) pe_int (fun _ _ => rfl)) po_none (po_some (pe_op op_add (pe_callB (call_lnK (K := K) rfl) rfl T.n_len boot_len (pa_cons (pv 4) pa_nil)) pe_int))))))
      (pss_one (ps_ret (pv 4))))))), ?_⟩
    obtain ⟨dx, ho⟩ := R.ob
    walk_at "z"
    refine ⟨p, l, ws, x, a, rfl, R, hws, hx, fun ok pl H1 r hr s1 h1 => ?_, k2, k3⟩
    have kk := k1 ok pl
    have R1 := R.same s1
    have e := len_tl x
    have hl := okText_len ok
    obtain ⟨⟨dx, ho1⟩, _⟩ := id R1
    walk_at "z"
    refine ⟨p, x, a, rfl, hx, fun _ _ H2 s2 => ?_, fun z => (by rw [ok] at z; cases z), fun _ z => absurd pl z⟩
    obtain ⟨n, rfl⟩ := Int.eq_ofNat_of_zero_le pl.1
    have hn : n ≤ (tl x).length := by have := pl.2; omega
    rw [show ((n : Int)).toNat = n by omega] at kk h1 ⊢
    have h2 := s2 _ _ h1
    have s02 := Same.trans s1 s2
    clear k1 k2 k3 R R1 ho ho1 s1 s2 h1
    have hp4 : (fPart x n).length ≤ 400 := by
      unfold fPart
      rw [len_S, List.length_take, List.length_drop]; omega
    have hf4 : ∀ w ∈ fFit ws (fPart x n), w.length ≤ 400 := fun w hw => hw4 w (List.mem_filter.mp hw).1
    have hfs : ∀ w ∈ fFit ws (fPart x n), (tl w).take (tl (fPart x n)).length = tl (fPart x n) := fun w hw => by
      have := (List.mem_filter.mp hw).2
      rw [starts_eq] at this
      exact of_decide_eq_true this
    have hfl : (fFit ws (fPart x n)).length < 1000 := Nat.lt_of_le_of_lt (List.length_filter_le _ _) hws
    walk_at "z"
    rw [cut_part hn]
    generalize fPart x n = part at *
    generalize hF : fFit ws part = F at *
    walk_at "z"
    cases F with
    | nil =>
      walk_at "z"
      exact kk _ s02
    | cons s0 rest =>
      walk_at "z"
      have e0 := len_tl s0
      have ep := len_tl part
      have h0l := hf4 s0 (by simp)
      have hpre := hfs s0 (by simp)
      have hpl0 : (tl part).length ≤ (tl s0).length := by
        have := congrArg List.length hpre
        rw [List.length_take] at this
        omega
      have hw0 : wk s0 (s0 :: rest) (tl part).length = true := List.all_eq_true.mpr fun w hw => decide_eq_true (by rw [hfs w hw, hpre])
      have hpart : part = S ((tl s0).take (tl part).length) := by apply str_ext; rw [tl_S, hpre]
      refine z_while (fun c σ' H' => ∃ m : Nat, σ' = [some (.ref p), some (.str x), some (.int (n : Nat)), some (.ref r), some (.str (S ((tl s0).take m))), none] ∧ Same H H' ∧ H' r = some (.lst ((s0 :: rest).map V.str)) ∧ m ≤ (tl s0).length ∧ wk s0 (s0 :: rest) m = true ∧ c = (tl s0).length - m) ((tl s0).length - (tl part).length) ⟨(tl part).length, by rw [← hpart]; rfl, s02, h2, hpl0, hw0, rfl⟩ ?_
      clear h2 s02
      rintro c σ' H3 ⟨m, rfl, s3, h3, hm, hwm, hc⟩
      have hlm : (S ((tl s0).take m)).length = m := by rw [len_S, List.length_take]; omega
      have fin : (m = (tl s0).length ∨ wk s0 (s0 :: rest) (m + 1) = false) → ∀ H4, Same H H4 → Q (.str (S ((tl s0).take m))) H4 := fun z H4 s4 => by
        have := lcpD_eq (N := s0.length) hwm (by omega) (by rw [e0]; exact z)
        have k4 := kk H4 s4
        unfold fCommon at k4
        simp only [this] at k4
        exact k4
      walk_at "z"
      refine z_ixL (v := .str s0) (SqL.of h3) (atI_nat (j := 0) rfl) ?_
      walk_at "z"
      rw [hlm]
      refine ite_b (fun g1 => ?_) (fun g1 => ?_)
      · have g1' := of_decide_eq_true g1
        walk_at "z"
        intro D hD
        refine lc_lstP (xs := (s0 :: rest).map V.str) (fun _ => true) (fun v => match v with | .str w => .bl (Txt.startswith w (S ((tl s0).take (m + 1)))) | _ => .non) (SqL.of h3) (by rw [List.length_map]; omega) (by intro v; rfl) hD ?_ ?_ ?_
        · intro v hv H4 Q4 s4 q
          walk_at "z"
          exact q
        · intro v hv H4 Q4 _ s4 q
          obtain ⟨w, _, rfl⟩ := mem_strs hv
          walk_at "z"
          refine z_ixL (v := .str s0) (SqL.of (s4 _ _ h3)) (atI_nat (j := 0) rfl) ?_
          walk_at "z"
          rw [hlm, cutS_eq, cutL_to _ (by omega), show ((m : Int) + 1).toNat = m + 1 by omega]
          walk_at "z"
          exact q
        have s4 : Same H3 (upd H3 D (.lst ((((s0 :: rest).map V.str).filter fun _ => true).map (fun v => match v with | .str w => .bl (Txt.startswith w (S ((tl s0).take (m + 1)))) | _ => .non)))) := Same.new (Same.refl _) hD
        walk_at "z"
        refine z_all ((s0 :: rest).map fun w => Txt.startswith w (S ((tl s0).take (m + 1)))) (SqL.of (by rw [upd_same, List.filter_eq_self.mpr (fun _ _ => rfl), List.map_map, List.map_map]; rfl)) ?_
        have ew : ((s0 :: rest).map fun w => Txt.startswith w (S ((tl s0).take (m + 1)))).all id = wk s0 (s0 :: rest) (m + 1) := by
          rw [take_starts (by omega), List.all_map]; rfl
        rw [ew]
        walk_at "z"
        refine ite_b (fun g2 => ?_) (fun g2 => ?_)
        · refine z_turn ?_
          have h4 := s4 _ _ h3
          walk_at "z"
          refine z_ixL (v := .str s0) (SqL.of h4) (atI_nat (j := 0) rfl) ?_
          walk_at "z"
          rw [hlm, cutS_eq, cutL_to _ (by omega), show ((m : Int) + 1).toNat = m + 1 by omega]
          walk_at "z"
          exact ⟨(tl s0).length - (m + 1), by omega, m + 1, rfl, Same.trans s3 s4, h4, by omega, g2, rfl⟩
        · walk_at "z"
          exact fin (.inr g2) _ (Same.trans s3 s4)
      · have g1' := of_decide_eq_false g1
        walk_at "z"
        exact fin (.inl (by omega)) _ s3
end

theorem sc__law_told : FnScope ["filler", "way", "text", "at", "held", "found", "e"] ["filler", "way", "text", "at"] (defScope s__law_told) := ⟨rfl, rfl, rfl, by decide +kernel, rfl, by decide +kernel, by decide +kernel⟩
section
variable {P : Program} {w : World} {K : PySem.W.Frag} {mg : Str → Option Value} {base : Heap}
/-- what is told: a number, a text, a new list of texts -/
def Got (H : Hp) (H' : Hp) (v : V) (d : PyData) : Prop := (∃ i, v = .int i ∧ d = .int i) ∨ (∃ s, v = .str s ∧ d = .str s) ∨ ∃ r ts, v = .ref r ∧ H r = none ∧ H' r = some (.lst (ts.map V.str)) ∧ d = strD ts
def wayD (way : Int) (ws : List Str) (x : Str) (a : Int) : PyData := if way = 0 then .int (fStart (tl x) a.toNat : Nat) else if way = 1 then strD (fFit ws (fPart x a.toNat)) else .str (fCommon (fFit ws (fPart x a.toNat)) (fPart x a.toNat))
def sp_law_told (K : PySem.W.Frag) : Sp := fun vs H Q _ => ∃ (p l : Addr) (ws : List Str) (way : Int) (y : V) (a : Int), vs = [.ref p, .int way, y, .int a] ∧ FillAt K H p l ws ∧ ws.length < 1000 ∧ (∀ w ∈ ws, w.length ≤ 400) ∧
  ((∃ x : Str, y = .str x ∧ okText x = true ∧ 0 ≤ way ∧ way ≤ 2 ∧ (LineS.place x a → ∀ v H', Same H H' → Got H H' v (wayD way ws x a) → Q v H') ∧ (¬ LineS.place x a → ∀ t H', H t = none → Same H H' → H' t = some (.tup [.str "refused", .str "place"]) → Q (.ref t) H')) ∨
   (∃ (q : Addr) (xs : List Str), y = .ref q ∧ way = 3 ∧ SqL K H q (xs.map V.str) ∧ (∀ x ∈ xs, x.length < sizeLine) ∧ xs.length < 1000 ∧ fillOk xs = false ∧ ∀ t H', H t = none → Same H H' → H' t = some (.tup [.str "refused", .str "text"]) → Q (.ref t) H'))
theorem f__law_told (T : Tx K mg) : Fn P w K mg base "_law_told" 6 ["filler", "way", "text", "at"] (sp_law_told K) := by
  obtain ⟨fd, F⟩ := T.c.d.def_ 12 (d := d__law_told) rfl
  refine ⟨_, fd, F.ok (CX := L2.CX P w) sc__law_told (fun vs H Q E h => ?len) (fun cdv A outer s H vs Q E hr h => ?body), T.g__law_told, F.kp, F.bindsN fun _ _ _ _ _ _ us hl => match us, hl with | [_, _, _, _], _ => rfl, FunD.bindsA F fun _ _ _ _ _ _ us hl => match us, hl with | [_, _, _, _], _ => rfl⟩
  case len => obtain ⟨p, l, ws, way, y, a, rfl, R, hws, hw4, k⟩ := h; rfl
  case body =>
    obtain ⟨p, l, ws, way, y, a, rfl, R, hws, hw4, k⟩ := h
    refine ⟨_, (pss_cons (ps_set (i := 4) sc__law_told.nd rfl (Or.inl rfl) pe_non)
      (pss_cons (ps_set (i := 5) sc__law_told.nd rfl (Or.inl rfl) pe_non)
      (pss_cons (ps_tryT (i := 6) rfl rfl rfl sc__law_told.nd rfl rfl ⟨rfl, by decide, .inl T.g_HandError⟩ tkOf (fun W pn xe tk' _ => (pss_one (ps_if (pt_cmpR op_eq (pv 1) pe_int (nomark _)) (pss_one (ps_set (i := 5) sc__law_told.nd rfl (Or.inl rfl) (pe_mt (pv 0) (m_Filler_start T) (hr.mono (by decide)) tk' (pa_cons (pv 2) (pa_cons (pv 3) pa_nil))))) (pss_one (ps_if (pt_cmpR op_eq (pv 1) pe_int (nomark _)) (pss_one (ps_set (i := 5) sc__law_told.nd rfl (Or.inl rfl) (pe_mt (pv 0) (m_Filler_fitting T) (hr.mono (by decide)) tk' (pa_cons (pv 2) (pa_cons (pv 3) pa_nil))))) (pss_one (ps_set (i := 5) sc__law_told.nd rfl (Or.inl rfl) (pe_ifExp (pt_cmpR op_eq (pv 1) pe_int (nomark _)) (pe_mt (pv 0) (m_Filler_common T) (hr.mono (by decide)) tk' (pa_cons (pv 2) (pa_cons (pv 3) pa_nil))) (pe_cmpR op_isNon (pe_mk (mk_Filler T) (hr.mono (by decide)) tk' (pa_cons (pv 2) pa_nil)) pe_non (nomark _)))))))))) (fun a oe cls d pn _ _ => (pss_one (ps_set (i := 4) sc__law_told.nd rfl (Or.inl rfl) (pv 6)))))
      (pss_one (ps_ret (pe_ifExp (pt_cmpR op_isNon (pv 4) pe_non (nomark _)) (pv 5) (pe_fn (f__law_refusal T) (hr.mono (by decide)) tkOf (pa_cons (pv 4) pa_nil)))))))), ?_⟩
    obtain ⟨⟨dx, ho⟩, _⟩ := id R
    rcases k with ⟨x, rfl, ok, w0, w2, k1, k2⟩ | ⟨q, xs, rfl, rfl, hq, hxl, hxn, hbad, k⟩
    · have hx : x.length < sizeLine := by have := okText_len ok; rw [sizeLine_eq]; omega
      walk_at "z"
      refine ite_b (fun h1 => ?_) (fun h1 => ?_)
      · have h1' : way = 0 := by simpa using h1
        subst h1'
        walk_at "z"
        refine ⟨p, x, a, rfl, hx, fun _ pl H1 s1 => ?_, fun z => (by rw [ok] at z; cases z), fun _ bad H1 s1 => ?_⟩
        · walk_at "z"
          exact k1 pl _ _ s1 (.inl ⟨_, rfl, rfl⟩)
        · refine z_wtrk T.e_BadPlace fun b hb => ?_
          walk_at "z"
          intro hb'
          walk_at "z"
          refine ⟨b, "BadPlace", "place", rfl, by simp [errs], upd_same, fun t H2 ht s2 h2 => ?_⟩
          exact k2 bad t H2 (fresh_of s1 (un_fresh ht).2) (Same.trans (Same.new s1 hb) s2) h2
      · have h1' : ¬ way = 0 := by simpa using h1
        walk_at "z"
        refine ite_b (fun h2 => ?_) (fun h2 => ?_)
        · have h2' : way = 1 := by simpa using h2
          subst h2'
          walk_at "z"
          refine ⟨p, l, ws, x, a, rfl, R, hws, hx, fun _ pl H1 r hr s1 hr1 => ?_, fun z => (by rw [ok] at z; cases z), fun _ bad H1 s1 => ?_⟩
          · walk_at "z"
            exact k1 pl _ _ s1 (.inr (.inr ⟨r, _, rfl, hr, hr1, rfl⟩))
          · refine z_wtrk T.e_BadPlace fun b hb => ?_
            walk_at "z"
            intro hb'
            walk_at "z"
            refine ⟨b, "BadPlace", "place", rfl, by simp [errs], upd_same, fun t H2 ht s2 h2 => ?_⟩
            exact k2 bad t H2 (fresh_of s1 (un_fresh ht).2) (Same.trans (Same.new s1 hb) s2) h2
        · have h2' : ¬ way = 1 := by simpa using h2
          have h3' : way = 2 := by omega
          subst h3'
          walk_at "z"
          refine ⟨p, l, ws, x, a, rfl, R, hws, hw4, hx, fun _ pl H1 s1 => ?_, fun z => (by rw [ok] at z; cases z), fun _ bad H1 s1 => ?_⟩
          · walk_at "z"
            exact k1 pl _ _ s1 (.inr (.inl ⟨_, rfl, rfl⟩))
          · refine z_wtrk T.e_BadPlace fun b hb => ?_
            walk_at "z"
            intro hb'
            walk_at "z"
            refine ⟨b, "BadPlace", "place", rfl, by simp [errs], upd_same, fun t H2 ht s2 h2 => ?_⟩
            exact k2 bad t H2 (fresh_of s1 (un_fresh ht).2) (Same.trans (Same.new s1 hb) s2) h2
    · walk_at "z"
      intro p2 dx2 hp2 hdx2 hne2
      have s0 : Same H (upd (upd H dx2 (.own p2)) p2 (.ins (He.ga K "Filler") dx2 [])) := fun b o e => by rw [upd_ne (ne_of_none e hp2), upd_ne (ne_of_none e hdx2)]; exact e
      refine ⟨p2, dx2, q, xs, rfl, upd_same, Evl.ex_l s0 hq, hxl, hxn, fun z => (by rw [hbad] at z; cases z), fun _ H1 s1 => ?_⟩
      refine z_wtrk T.e_BadText fun b hb => ?_
      walk_at "z"
      intro hb'
      walk_at "z"
      refine ⟨b, "BadText", "text", rfl, by simp [errs], upd_same, fun t H2 ht s2 h2 => ?_⟩
      have s01 := Same.trans s0 s1
      exact k t H2 (fresh_of s01 (un_fresh ht).2) (Same.trans (Same.new s01 hb) s2) h2
end

theorem sc_law : FnScope ["script", "town", "menu", "words", "k", "given", "filler", "text", "at", "start", "part", "some", "word", "common", "way", "bad"] ["script"] (defScope s_law) := ⟨rfl, rfl, rfl, by decide +kernel, rfl, by decide +kernel, by decide +kernel⟩
section
variable {P : Program} {w : World} {K : PySem.W.Frag} {mg : Str → Option Value} {base : Heap}
structure W31 (K : PySem.W.Frag) (H : Hp) (a t : Addr) (ns : List Int) (n : Nat) (wl gl p l : Addr) (xs ws : List Str) : Prop where
  bs : Bs K H a t ns n
  hw : H wl = some (.lst (xs.map V.str))
  hg : H gl = some (.lst (xs.map V.str))
  fi : FillAt K H p l ws
  nt : t ∉ [wl, gl, p, l]
section
variable {H H' : Hp} {a t : Addr} {ns : List Int} {n n' : Nat} {wl gl p l : Addr} {xs ws : List Str}
theorem W31.same (W : W31 K H a t ns n wl gl p l xs ws) (s : Same H H') : W31 K H' a t ns n wl gl p l xs ws := ⟨W.bs.same s, s _ _ W.hw, s _ _ W.hg, W.fi.same s, W.nt⟩
theorem W31.draw (W : W31 K H a t ns n wl gl p l xs ws) (B : Bs K H' a t ns n') (f : Fr [t] H H') : W31 K H' a t ns n' wl gl p l xs ws := by
  have nt := W.nt
  simp only [List.mem_cons, List.not_mem_nil, or_false, not_or] at nt
  obtain ⟨n1, n2, n3, n4⟩ := nt
  exact ⟨B, f _ _ W.hw (not_mem1 (Ne.symm n1)), f _ _ W.hg (not_mem1 (Ne.symm n2)), ⟨let ⟨dx, e⟩ := W.fi.ob; ⟨dx, f _ _ e (not_mem1 (Ne.symm n3))⟩, f _ _ W.fi.ls (not_mem1 (Ne.symm n4))⟩, W.nt⟩
theorem W31.mono (W : W31 K H a t ns n wl gl p l xs ws) (h : n ≤ n') : W31 K H a t ns n' wl gl p l xs ws := ⟨W.bs.mono h, W.hw, W.hg, W.fi, W.nt⟩
end
/-- the items of a comprehension are data -/
def DataGo (K : PySem.W.Frag) (te : TE) (σ : L2.St) (d : PyData) (D : Addr) (H1 : Hp) : Prop := ∀ (H2 : Hp) (Q2 : VK), Same H1 H2 → (∃ acc, H2 D = some (.lst acc)) → (∀ v H3, Same H2 H3 → (∀ H4, Fr [D] H3 H4 → Dp K H4 v d) → Q2 v H3) → te σ H2 Q2
theorem lc_dataRng {K : PySem.W.Frag} {σ : L2.St} {H1 : Hp} {te : TE} {vs : List Nat} {D : Addr} {Qd : Hp → Prop} {n : Nat} {lo : Int} {j : Nat} (ds : List PyData) (hn : ds.length = n) (hn1 : n < 1000) (hw : ∀ v, wipe ((wipe σ vs).set j (some v)) vs = wipe σ vs) (hD : H1 D = none)
    (he : ∀ i d, ds[i]? = some d → DataGo K te ((wipe σ vs).set j (some (.int (lo + (i : Nat))))) d D H1) (hd : ∀ H', Same H1 H' → Dp K H' (.ref D) (.list ds) → Qd H') : LcGo (Itr lo n) (gName j) tYes te vs σ D H1 Qd := by
  refine lg_range (fun i H2 => Same H1 H2 ∧ ∃ acc, H2 D = some (.lst acc) ∧ acc.length = i ∧ ∀ H4, Fr [D] H2 H4 → DpAll K H4 acc (ds.take i)) ⟨Same.own (Same.refl _) hD, [], upd_same, rfl, fun _ _ => .nil⟩ ?_ ?_
  · rintro i H2 hi ⟨s2, acc, h2, hl, ha⟩
    have hdi : ds[i]? = some ds[i] := List.getElem?_eq_getElem (by omega)
    refine ⟨hw _, z_yes (iteT (he i _ hdi H2 _ s2 ⟨acc, h2⟩ fun v H3 s3 hv => ⟨acc, s3 _ _ h2, by rw [sizeLine_eq]; omega, Same.own (Same.trans s2 s3) hD, acc ++ [v], upd_same, by simp [hl], fun H4 f4 => ?_⟩))⟩
    have f3 : Fr [D] H3 H4 := (Fr.upd Fr.refl (by simp)).trans f4
    rw [List.take_succ, hdi]
    have h1 := ha H4 ((Fr.same s3).trans f3)
    have h2 := hv H4 f3
    exact dpAll_snoc h1 h2
  · rintro H2 ⟨s2, acc, h2, hl, ha⟩
    have h1 := ha H2 Fr.refl
    rw [List.take_of_length_le (by omega)] at h1
    exact hd H2 s2 (.lst (SqL.of h2) h1)
theorem got_go {K : PySem.W.Frag} {H2 H3 H4 : Hp} {D : Addr} {v : V} {d : PyData} {acc : List V} (g : Got H2 H3 v d) (hD : H2 D = some (.lst acc)) (f : Fr [D] H3 H4) : Dp K H4 v d := by
  rcases g with ⟨i, rfl, rfl⟩ | ⟨x, rfl, rfl⟩ | ⟨r, ts, rfl, hr, h, rfl⟩
  · exact .int i
  · exact .str x
  · exact dp_strs (SqL.of (f _ _ h (not_mem1 (ne_of_none hD hr).symm)))
theorem starts_cut {w part : Str} : decide (V.str (cutS w none (some (part.length : Int))) = V.str part) = Txt.startswith w part := by
  rw [starts_eq, cutS_eq, cutL_to _ (by omega)]
  have e := len_tl part
  rw [show ((part.length : Int)).toNat = (tl part).length by omega]
  rw [decide_eq_decide]
  constructor
  · intro h
    injection h with h
    exact str_eq_iff.mp h
  · intro h
    rw [show S ((tl w).take (tl part).length) = part from str_ext h]
def menu31 : List Str := ["make", "maker", "makers", "map", "m", "other", "Make", "o-k", "under", "und"]
theorem menu_ok : ∀ x ∈ menu31, wordOk x = true ∧ x.length ≤ 10 := by decide +kernel
def sp_law (K : PySem.W.Frag) : Sp := fun vs H Q _ => ∃ (a : Addr) (ns : List Int), vs = [.ref a] ∧ Scr K H a ns ∧ ∀ H', Q (.bl true) H'

theorem f_law {K : PySem.W.Frag} {mg : Str → Option Value} (T : Tx K mg) : ∃ fd : FuncData, (∀ (s : Shared) (us : List Value), us.length = 1 → BindsTo s fd ⟨us, []⟩ ([("script" : Str)].zip us)) ∧ ∀ (P : Program) (w : World) (base : Heap), FnOk P w K mg base (L2.CX P w) 7 (He.ga K "law") fd ["script"] (sp_law K) := by
  obtain ⟨fd, F⟩ := T.c.d.def_ 13 (d := d_law) rfl
  refine ⟨fd, FunD.bindsA (ps := ["script"]) F fun _ _ _ _ _ _ us hl => match us, hl with | [_], _ => rfl, fun P w base => F.ok (CX := L2.CX P w) sc_law (fun vs H Q E h => ?len) (fun cdv A outer s H vs Q E hr h => ?body)⟩
  case len => obtain ⟨a, ns, rfl, hs, k⟩ := h; rfl
  case body =>
    obtain ⟨a, ns, rfl, hs, k⟩ := h
    have hu64 := hr.units
    refine ⟨_, (pss_cons (ps_set (i := 1) sc_law.nd rfl (Or.inr rfl) (pe_lst pa_nil))
      (pss_cons (ps_set (i := 2) sc_law.nd rfl (Or.inr rfl) (pe_lst (pa_cons pe_str (pa_cons pe_str (pa_cons pe_str (pa_cons pe_str (pa_cons pe_str (pa_cons pe_str (pa_cons pe_str (pa_cons pe_str (pa_cons pe_str (pa_cons pe_str pa_nil))))))))))))
      (pss_cons (ps_setLc (i := 3) (own := [("k", 4)]) rfl sc_law.nd rfl rfl (sw_true rfl rfl rfl (by decide +kernel)) (pi_range1 rfl T.n_range (pa_cons (pe_fn (f__law_draw T) (hr.mono (by decide)) tkOf (pa_cons (pv 0) (pa_cons (pv 1) (pa_cons pe_int pa_nil)))) pa_nil)) (blkOk_by (N := ["script", "town", "menu", "words", "k", "given", "filler", "text", "at", "start", "part", "some", "word", "common", "way", "bad"]) (sc := defScope s_law) (by decide +kernel)) (fun _ _ _ _ _ => (pg_name (i := 4) sc_law.nd rfl (Or.inl rfl))) (fun _ _ _ _ _ => pts_nil) (fun _ _ _ _ _ => (pe_fn (f__law_pick T) (hr.mono (by decide)) takes0 (pa_cons (pv 0) (pa_cons (pv 1) (pa_cons (pv 2) pa_nil))))))
      (pss_cons (ps_set (i := 5) sc_law.nd rfl (Or.inl rfl) (pe_callTy (call_loK (K := K) rfl) rfl T.n_list (by decide +kernel) (pa_cons (pv 3) pa_nil)))
      (pss_cons (ps_set (i := 6) sc_law.nd rfl (Or.inr rfl) (pe_mk (mk_Filler T) (hr.mono (by decide)) tkOf (pa_cons (pv 3) pa_nil)))
      (pss_cons (ps_set (i := 7) sc_law.nd rfl (Or.inr rfl) (pe_fn (f__law_pick T) (hr.mono (by decide)) tkOf (pa_cons (pv 0) (pa_cons (pv 1) (pa_cons (pe_lst (pa_cons pe_str (pa_cons pe_str (pa_cons pe_str (pa_cons pe_str pa_nil))))) pa_nil)))))
      (pss_cons (ps_set (i := 7) sc_law.nd rfl (Or.inr rfl) (pe_op op_addS (pv 7) (pe_fn (f__law_pick T) (hr.mono (by decide)) tkOf (pa_cons (pv 0) (pa_cons (pv 1) (pa_cons (pe_lst (pa_cons pe_str (pa_cons pe_str (pa_cons pe_str (pa_cons pe_str (pa_cons pe_str (pa_cons pe_str (pa_cons pe_str (pa_cons pe_str pa_nil))))))))) pa_nil))))))
      (pss_cons (ps_set (i := 7) sc_law.nd rfl (Or.inr rfl) (pe_op op_addS (pv 7) (pe_fn (f__law_pick T) (hr.mono (by decide)) tkOf (pa_cons (pv 0) (pa_cons (pv 1) (pa_cons (pe_lst (pa_cons pe_str (pa_cons pe_str (pa_cons pe_str (pa_cons pe_str pa_nil))))) pa_nil))))))
      (pss_cons (ps_for passOf rfl (pi_range1 rfl T.n_range (pa_cons (pe_op op_add (pe_callB (call_lnK (K := K) rfl) rfl T.n_len boot_len (pa_cons (pv 7) pa_nil)) pe_int) pa_nil)) (pg_name (i := 8) sc_law.nd rfl (Or.inr rfl)) (pss_cons (ps_set (i := 9) sc_law.nd rfl (Or.inl rfl) (pe_callB (cr_maxK (K := K) rfl rfl) rfl T.n_max (by decide +kernel) (pa_cons (pe_op op_cat (pe_lst (pa_cons pe_int pa_nil)) (pe_lc (own := [("k", 4)]) rfl sc_law.nd (pi_range1 rfl T.n_range (pa_cons (pv 8) pa_nil)) (blkOk_by (N := ["script", "town", "menu", "words", "k", "given", "filler", "text", "at", "start", "part", "some", "word", "common", "way", "bad"]) (sc := defScope s_law) (by decide +kernel)) (fun _ _ _ _ _ => (pg_name (i := 4) sc_law.nd rfl (Or.inl rfl))) (fun _ _ _ _ _ => (pts_one (pt_cmpR op_eq (pe_ix ix_str (pv 7) (pv 4) (fun _ _ => rfl)) pe_str (nomark _)))) (fun _ _ _ _ _ => (pe_op op_add (pv 4) pe_int)))) pa_nil)))
      (pss_cons (ps_set (i := 10) sc_law.nd rfl (Or.inr rfl) (pe_slice sl_str (pv 7) (po_some (pv 9)) (po_some (pv 8))))
      (pss_cons (ps_set (i := 11) sc_law.nd rfl (Or.inl rfl) (pe_sortSet (K := K) rfl rfl T.n_sorted T.n_set (pe_lc (own := [("word", 12)]) rfl sc_law.nd (pi_listK (K := K) rfl (pv 3)) (blkOk_by (N := ["script", "town", "menu", "words", "k", "given", "filler", "text", "at", "start", "part", "some", "word", "common", "way", "bad"]) (sc := defScope s_law) (by decide +kernel)) (fun _ _ _ _ _ => (pg_name (i := 12) sc_law.nd rfl (Or.inl rfl))) (fun _ _ _ _ _ => (pts_one (pt_cmpR op_eq (pe_slice sl_str (pv 12) po_none (po_some (pe_callB (call_lnK (K := K) rfl) rfl T.n_len boot_len (pa_cons (pv 10) pa_nil)))) (pv 10) (nomark _)))) (fun _ _ _ _ _ => (pv 12)))))
      (pss_cons (ps_set (i := 13) sc_law.nd rfl (Or.inr rfl) (pv 10))
      (Evl.pss_cut (ps_if (pt_cmpR (op_neDK (K := K) rfl hu64) (pv 11) (pe_lst pa_nil) (nomark _)) (pss_cons (ps_set (i := 13) sc_law.nd rfl (Or.inr rfl) (pe_ix (ix_listK (K := K) rfl) (pv 11) pe_int (fun _ _ => rfl)))
      (pss_one (ps_while passOf (pt_not (pt_val (pe_callB (cr_allK (K := K) rfl rfl) rfl T.n_all (by decide +kernel) (pa_cons (pe_lc (own := [("word", 12)]) rfl sc_law.nd (pi_listK (K := K) rfl (pv 11)) (blkOk_by (N := ["script", "town", "menu", "words", "k", "given", "filler", "text", "at", "start", "part", "some", "word", "common", "way", "bad"]) (sc := defScope s_law) (by decide +kernel)) (fun _ _ _ _ _ => (pg_name (i := 12) sc_law.nd rfl (Or.inl rfl))) (fun _ _ _ _ _ => pts_nil) (fun _ _ _ _ _ => (pe_cmpR op_eq (pe_slice sl_str (pv 12) po_none (po_some (pe_callB (call_lnK (K := K) rfl) rfl T.n_len boot_len (pa_cons (pv 13) pa_nil)))) (pv 13) (nomark _)))) pa_nil)))) (pss_one (ps_set (i := 13) sc_law.nd rfl (Or.inr rfl) (pe_slice sl_str (pv 13) po_none (po_some (pe_un un_neg pe_int)))))))) pss_nil)
      (pss_one (ps_if (pt_cmpR (op_neDK (K := K) rfl hu64) (pe_lc (own := [("way", 14)]) rfl sc_law.nd (pi_range1 rfl T.n_range (pa_cons pe_int pa_nil)) (blkOk_by (N := ["script", "town", "menu", "words", "k", "given", "filler", "text", "at", "start", "part", "some", "word", "common", "way", "bad"]) (sc := defScope s_law) (by decide +kernel)) (fun _ _ _ _ _ => (pg_name (i := 14) sc_law.nd rfl (Or.inl rfl))) (fun _ _ _ _ _ => pts_nil) (fun _ _ _ _ _ => (pe_fn (f__law_told T) (hr.mono (by decide)) takes0 (pa_cons (pv 6) (pa_cons (pv 14) (pa_cons (pv 7) (pa_cons (pv 8) pa_nil))))))) (pe_lst (pa_cons (pv 9) (pa_cons (pv 11) (pa_cons (pv 13) pa_nil)))) (nomark _)) (pss_one (ps_ret pe_bl)) pss_nil))))))))
      (pss_cons (ps_if (pt_cmpR (op_neDK (K := K) rfl hu64) (pv 3) (pv 5) (nomark _)) (pss_one (ps_ret pe_bl)) pss_nil)
      (pss_cons (ps_set (i := 15) sc_law.nd rfl (Or.inl rfl) (pe_fn (f__law_pick T) (hr.mono (by decide)) tkOf (pa_cons (pv 0) (pa_cons (pv 1) (pa_cons (pe_lst (pa_cons (pe_lst (pa_cons pe_str pa_nil)) (pa_cons (pe_lst (pa_cons pe_str pa_nil)) (pa_cons (pe_lst (pa_cons pe_str (pa_cons pe_str pa_nil))) (pa_cons (pe_op op_rep (pe_lst (pa_cons pe_str pa_nil)) pe_int) pa_nil))))) pa_nil)))))
      (pss_cons (ps_if (pt_cmpR (op_neDK (K := K) rfl hu64) (pe_fn (f__law_told T) (hr.mono (by decide)) tkOf (pa_cons (pv 6) (pa_cons pe_int (pa_cons (pv 15) (pa_cons pe_int pa_nil))))) (pe_tup (pa_cons pe_str (pa_cons pe_str pa_nil))) (nomark _)) (pss_one (ps_ret pe_bl)) pss_nil)
      (pss_one (ps_ret (pe_cmpR (op_eqDK (K := K) rfl hu64) (pe_lc (own := [("way", 14)]) rfl sc_law.nd (pi_range1 rfl T.n_range (pa_cons pe_int pa_nil)) (blkOk_by (N := ["script", "town", "menu", "words", "k", "given", "filler", "text", "at", "start", "part", "some", "word", "common", "way", "bad"]) (sc := defScope s_law) (by decide +kernel)) (fun _ _ _ _ _ => (pg_name (i := 14) sc_law.nd rfl (Or.inl rfl))) (fun _ _ _ _ _ => pts_nil) (fun _ _ _ _ _ => (pe_fn (f__law_told T) (hr.mono (by decide)) takes0 (pa_cons (pv 6) (pa_cons (pv 14) (pa_cons (pv 7) (pa_cons (pe_op op_add (pe_callB (call_lnK (K := K) rfl) rfl T.n_len boot_len (pa_cons (pv 7) pa_nil)) pe_int) pa_nil))))))) (pe_op op_rep (pe_lst (pa_cons (pe_tup (pa_cons pe_str (pa_cons pe_str pa_nil))) pa_nil)) pe_int) (nomark _)))))))))))))))), ?_⟩
    walk_at "z"
    intro t ht
    have B0 : Bs K (upd H t (.lst [])) a t ns 0 := ⟨hs.same (Same.new (Same.refl H) ht), [], upd_same, by simp⟩
    generalize upd H t (HO.lst []) = H1 at B0
    clear hs ht
    walk_at "z"
    intro mn hmn
    have B1 := B0.same (Same.new (Same.refl _) hmn (o := .lst (menu31.map V.str)))
    have hm1 : upd H1 mn (.lst (menu31.map V.str)) mn = some (.lst (menu31.map V.str)) := upd_same
    have nmt : mn ≠ t := by
      obtain ⟨zs, e, _⟩ := B0.tw
      exact (ne_of_none e hmn).symm
    walk_at "z"
    change sp_law_draw K _ (upd H1 mn (.lst (menu31.map V.str))) _ _
    generalize upd H1 mn (.lst (menu31.map V.str)) = H2 at B1 hm1 ⊢
    clear B0 hmn
    refine draw_bs B1 (by omega) (by omega) fun d H3 d0 d1 B3 f3 => ?_
    have hm3 := f3 _ _ hm1 (not_mem1 nmt)
    clear B1 hm1 f3
    walk_at "z"
    refine z_rng1e (by omega) (by omega) ?_
    obtain ⟨m, rfl⟩ := Int.eq_ofNat_of_zero_le d0
    have hm : m ≤ 10 := by omega
    intro D hD
    have nDt : D ≠ t := by
      obtain ⟨zs, e, _⟩ := B3.tw
      exact (ne_of_none e hD).symm
    have nDm : D ≠ mn := (ne_of_none hm3 hD).symm
    refine lg_range (fun i H' => ∃ ys : List Str, H' D = some (.lst (ys.map V.str)) ∧ ys.length = i ∧ (∀ y ∈ ys, y ∈ menu31) ∧ Bs K H' a t ns (1 + i) ∧ H' mn = some (.lst (menu31.map V.str))) ?_ ?_ ?_
    · exact ⟨[], upd_same, rfl, by simp, B3.same (Same.own (Same.refl _) hD), by rw [upd_ne nDm.symm]; exact hm3⟩
    · rintro i H5 hi ⟨ys, hy1, hy2, hy3, B5, hm5⟩
      have hi' : i < m := by simpa using hi
      refine z_gname ⟨rfl, z_yes (iteT ?_)⟩
      walk_at "z"
      refine pick_old B5 (by omega) hm5 nmt (by simp [menu31]) fun v hv H6 B6 f6 => ?_
      obtain ⟨y, hy, rfl⟩ := mem_strs hv
      have hy6 := f6 _ _ hy1 (not_mem1 nDt)
      refine ⟨_, hy6, by rw [List.length_map, sizeLine_eq]; omega, ys ++ [y], ?_, by simp [hy2], ?_, ?_, ?_⟩
      · rw [upd_same, List.map_append]; rfl
      · intro z hz
        rcases List.mem_append.mp hz with q | q
        · exact hy3 z q
        · rw [List.mem_singleton.mp q]; exact hy
      · exact B6.fr (S := [D]) (Fr.upd Fr.refl (by simp)) (.cons (.lst hy6) wrs_nil) (not_mem1 nDt.symm)
      · rw [upd_ne nDm.symm]; exact f6 _ _ hm5 (not_mem1 nmt)
    clear B3 hm3 hD
    rintro H5 ⟨xs, hy1, hy2, hy3, B5, hm5⟩
    have hx10 : xs.length ≤ 10 := by
      have : xs.length = m := by simpa using hy2
      omega
    have hxok : ∀ x ∈ xs, wordOk x = true ∧ x.length ≤ 10 := fun x hx => menu_ok x (hy3 x hx)
    have B5' := B5.mono (n' := 11) (by omega)
    clear B5 hy2 hy3 hm5 nDm
    walk_at "z"
    intro g hg
    have ngt : g ≠ t := by
      obtain ⟨zs, e, _⟩ := B5'.tw
      exact (ne_of_none e hg).symm
    have s6 : Same H5 (upd H5 g (.lst (xs.map V.str))) := Same.new (Same.refl _) hg
    have B6 := B5'.same s6
    have hy6 := s6 _ _ hy1
    have hg6 : upd H5 g (.lst (xs.map V.str)) g = some (.lst (xs.map V.str)) := upd_same
    generalize upd H5 g (.lst (xs.map V.str)) = H6 at B6 hy6 hg6 ⊢
    clear B5' hy1 hg s6
    walk_at "z"
    intro p dx hp hdx hne
    have s0 : Same H6 (upd (upd H6 dx (.own p)) p (.ins (He.ga K "Filler") dx [])) := fun b o e => by rw [upd_ne (ne_of_none e hp), upd_ne (ne_of_none e hdx)]; exact e
    have fok : fillOk xs = true := by
      unfold fillOk
      rw [decide_eq_true (by omega), Bool.true_and]
      exact List.all_eq_true.mpr fun x hx => (hxok x hx).1
    refine ⟨p, dx, D, xs, rfl, upd_same, SqL.of (s0 _ _ hy6), fun x hx => (by have := (hxok x hx).2; rw [sizeLine_eq]; omega), by omega, fun _ => ⟨by omega, fun H7 l ws hl R7 sr wl7 f7 => ⟨rfl, ?_⟩⟩, fun z => (by rw [fok] at z; cases z)⟩
    have s7 : Same H6 H7 := Fr.drop s0 f7 (by simpa using hp)
    have W : W31 K H7 a t ns 11 D g p l xs ws := by
      refine ⟨B6.same s7, s7 _ _ hy6, s7 _ _ hg6, R7, ?_⟩
      obtain ⟨zs, e, _⟩ := B6.tw
      have n3 := ne_of_none e hp
      have n4 := ne_of_none (s0 _ _ e) hl
      simp only [List.mem_cons, List.not_mem_nil, or_false, not_or]
      exact ⟨nDt.symm, ngt.symm, n3, n4⟩
    have hw4 : ∀ w ∈ ws, w.length ≤ 400 := fun w hw => by have := (hxok w ((sr.mem w).mp hw)).2; omega
    have hwok : ∀ w ∈ ws, okText w = true := fun w hw => by
      have := (hxok w ((sr.mem w).mp hw)).1
      unfold wordOk at this
      exact (Bool.and_eq_true_iff.mp this).1
    have hwl : ws.length < 1000 := by omega
    clear R7 f7 s7 hy6 hg6 B6 s0 hp hdx hne hl nDt ngt H6
    walk_at "z"
    intro q hq
    walk_at "z"
    refine pick_bs W.bs (by omega) hq (by simp) fun v hv H8 B8 f8 => ?_
    have hv' : ∃ x : Str, v = .str x ∧ okText x = true ∧ x.length ≤ 10 := by
      simp only [List.mem_cons, List.not_mem_nil, or_false] at hv
      rcases hv with rfl | rfl | rfl | rfl
      all_goals exact ⟨_, rfl, by decide +kernel, by decide +kernel⟩
    obtain ⟨x1, rfl, ox1, lx1⟩ := hv'
    have W8 := W.draw B8 f8
    clear W B8 f8 hv hq
    walk_at "z"
    intro q hq
    walk_at "z"
    refine pick_bs W8.bs (by omega) hq (by simp) fun v hv H9 B9 f9 => ?_
    have hv' : ∃ x : Str, v = .str x ∧ okText x = true ∧ x.length ≤ 10 := by
      simp only [List.mem_cons, List.not_mem_nil, or_false] at hv
      rcases hv with rfl | rfl | rfl | rfl | rfl | rfl | rfl | rfl
      all_goals exact ⟨_, rfl, by decide +kernel, by decide +kernel⟩
    obtain ⟨x2, rfl, ox2, lx2⟩ := hv'
    have W9 := W8.draw B9 f9
    clear W8 B9 f9 hv hq
    have ox12 := okText_app ox1 ox2 (by omega)
    have lx12 : (x1 ++ x2).length ≤ 20 := by rw [len_app]; omega
    walk_at "z"
    intro q hq
    walk_at "z"
    refine pick_bs W9.bs (by omega) hq (by simp) fun v hv H10 B10 f10 => ?_
    have hv' : ∃ x : Str, v = .str x ∧ okText x = true ∧ x.length ≤ 10 := by
      simp only [List.mem_cons, List.not_mem_nil, or_false] at hv
      rcases hv with rfl | rfl | rfl | rfl
      all_goals exact ⟨_, rfl, by decide +kernel, by decide +kernel⟩
    obtain ⟨x3, rfl, ox3, lx3⟩ := hv'
    have W10 := W9.draw B10 f10
    clear W9 B10 f10 hv hq
    have okx := okText_app ox12 ox3 (by omega)
    have lx : (x1 ++ x2 ++ x3).length ≤ 30 := by rw [len_app]; omega
    walk_at "z"
    generalize x1 ++ x2 ++ x3 = x at okx lx ⊢
    clear ox1 ox2 ox3 ox12 lx1 lx2 lx3 lx12
    have e := len_tl x
    refine z_rng1e (by omega) (by omega) ?_
    refine fg_range (fun i σ' H' => ∃ v8 v9 v10 v11 v13, σ' = [some (.ref a), some (.ref t), some (.ref mn), some (.ref D), none, some (.ref g), some (.ref p), some (.str x), v8, v9, v10, v11, none, v13, none, none] ∧ W31 K H' a t ns 14 D g p l xs ws) ?_ ?_ ?_
    · exact ⟨none, none, none, none, none, rfl, W10⟩
    · clear W10
      rintro i σ' H7 hi ⟨v8, v9, v10, v11, v13, rfl, W⟩
      have hil : i ≤ (tl x).length := by omega
      have pl : LineS.place x (0 + (i : Int)) := ⟨by omega, by omega⟩
      walk_at "z"
      intro q1 hq1
      walk_at "z"
      refine z_rng1e (by omega) (by omega) ?_
      rw [show (0 + (i : Int)).toNat = i by omega]
      intro D2 hD2
      refine lc_rngP (fun j => decide ((tl x)[j]? = some 32)) (fun j => .int (0 + (j : Nat) + 1)) (by omega) (by intro v; rfl) hD2 ?_ ?_ ?_
      · intro j H8 Q8 hj s8 q
        have hxj : (tl x)[j]? = some (tl x)[j] := List.getElem?_eq_getElem (by omega)
        walk_at "z"
        refine z_ixS (c := (tl x)[j]) (by rw [sizeLine_eq]; omega) (by rw [Int.zero_add]; exact atI_nat hxj) ?_
        walk_at "z"
        have : decide (V.str ⟨#[(tl x)[j]]⟩ = V.str " ") = decide ((tl x)[j]? = some 32) := by
          rw [decide_eq_decide, hxj]
          constructor
          · intro z
            injection z with z
            have := str_eq_iff.mp z
            have h2 : [(tl x)[j]] = [32] := this
            injection h2 with h2
            rw [h2]
          · intro z
            rw [Option.some.inj z]; rfl
        rw [this]
        exact q
      · intro j H8 Q8 hj _ s8 q
        walk_at "z"
        exact q
      generalize hL : (List.range i).filter (fun j => decide ((tl x)[j]? = some 32)) = L
      have hLl : L.length ≤ 400 := by
        rw [← hL]
        refine Nat.le_trans (List.length_filter_le _ _) ?_
        rw [List.length_range]; omega
      walk_at "z"
      intro q2 hq2
      walk_at "z"
      refine ⟨q2, [0] ++ L.map (fun j => 0 + ((j : Nat) : Int) + 1), rfl, SqL.of (by rw [upd_same, List.map_append, List.map_map]; rfl), by simp, fun mx hmx hmax => ?_⟩
      have hmx' : mx = (fStart (tl x) i : Nat) := by
        have h1 : ((fStart (tl x) i : Nat) : Int) ∈ [0] ++ L.map (fun j => 0 + ((j : Nat) : Int) + 1) := by
          rcases fStart_in (l := tl x) (a := i) with z | ⟨k, k1, k2, k3⟩
          · rw [z]; simp
          · refine List.mem_append_right _ (List.mem_map.mpr ⟨k, ?_, by rw [k3]; omega⟩)
            rw [← hL, List.mem_filter, List.mem_range]
            exact ⟨k1, decide_eq_true k2⟩
        have h2 := hmax _ h1
        refine Int.le_antisymm ?_ h2
        rcases List.mem_append.mp hmx with z | z
        · rw [List.mem_singleton.mp z]; omega
        · obtain ⟨j, hj, rfl⟩ := List.mem_map.mp z
          rw [← hL, List.mem_filter, List.mem_range] at hj
          have := fStart_max hj.1 (of_decide_eq_true hj.2)
          omega
      rw [hmx']
      have W8 := W.same (show Same H7 (upd (upd (upd H7 q1 (.lst [.int 0])) D2 (.lst (L.map fun j => V.int (0 + ((j : Nat) : Int) + 1)))) q2 (.lst ([V.int 0] ++ L.map fun j => V.int (0 + ((j : Nat) : Int) + 1)))) by walk_at "sa")
      generalize upd (upd (upd H7 q1 _) D2 _) q2 _ = H8 at W8 ⊢
      clear W hq1 hD2 hq2 hL hLl hmx hmax hmx'
      have hst := fStart_le (l := tl x) (a := i)
      have ecut : cutS x (some ((fStart (tl x) i : Nat) : Int)) (some (0 + (i : Int))) = fPart x i := by rw [show (0 + (i : Int)) = ((i : Nat) : Int) by omega]; exact cut_part hil
      have hp4 : (fPart x i).length ≤ 400 := by
        unfold fPart
        rw [len_S, List.length_take, List.length_drop]; omega
      have hp4' : (fPart x i).length ≤ sizeLine := by rw [sizeLine_eq]; omega
      have hpp : plainS (fPart x i) = true := by
        refine plain_all ?_
        unfold fPart
        rw [tl_S]
        exact List.all_eq_true.mpr fun c hc => List.all_eq_true.mp (okText_all okx) c (List.mem_of_mem_drop (List.mem_of_mem_take hc))
      have hwl8 := W8.hw
      walk_at "z"
      rw [ecut]
      walk_at "z"
      intro D3 hD3
      refine lc_lstP (xs := xs.map V.str) (fun v => match v with | .str w => Txt.startswith w (fPart x i) | _ => false) id (SqL.of hwl8) (by rw [List.length_map]; omega) (by intro v; rfl) hD3 ?_ ?_ ?_
      · intro v hv H9 Q9 s9 q
        obtain ⟨w, hw, rfl⟩ := mem_strs hv
        have hw9 : w.length ≤ sizeLine := by have := (hxok w hw).2; rw [sizeLine_eq]; omega
        walk_at "z"
        rw [starts_cut]
        exact q
      · intro v hv H9 Q9 _ s9 q
        walk_at "z"
        exact q
      have eF : ((xs.map V.str).filter fun v => match v with | .str w => Txt.startswith w (fPart x i) | _ => false).map id = (xs.filter fun w => Txt.startswith w (fPart x i)).map V.str := by
        rw [List.map_id, List.filter_map]; rfl
      rw [eF]
      refine ⟨D3, xs.filter fun w => Txt.startswith w (fPart x i), rfl, SqL.of upd_same, Nat.lt_of_le_of_lt (List.length_filter_le _ _) (by omega), fun sq ys hsq pm sr2 => ?_⟩
      have eys : ys = fFit ws (fPart x i) := (Srt.of pm sr2).one (sr.filter _)
      subst eys
      have W9 := W8.same (show Same H8 (upd (upd H8 D3 (.lst ((xs.filter fun w => Txt.startswith w (fPart x i)).map V.str))) sq (.lst ((fFit ws (fPart x i)).map V.str))) by walk_at "sa")
      have hs9 : (upd (upd H8 D3 (.lst ((xs.filter fun w => Txt.startswith w (fPart x i)).map V.str))) sq (.lst ((fFit ws (fPart x i)).map V.str))) sq = some (.lst ((fFit ws (fPart x i)).map V.str)) := upd_same
      generalize upd (upd H8 D3 _) sq _ = H9 at W9 hs9 ⊢
      clear W8 hD3 hsq pm sr2 eF hwl8 ecut
      have hf4 : ∀ w ∈ fFit ws (fPart x i), w.length ≤ 400 := fun w hw => hw4 w (List.mem_filter.mp hw).1
      have hfp : ∀ w ∈ fFit ws (fPart x i), plainS w = true := fun w hw => plain_ok (hwok w (List.mem_filter.mp hw).1)
      have hfl : (fFit ws (fPart x i)).length < 1000 := Nat.lt_of_le_of_lt (List.length_filter_le _ _) hwl
      have dfit : fFit ws (fPart x (0 + (i : Int)).toNat) = fFit ws (fPart x i) := by rw [show (0 + (i : Int)).toNat = i by omega]
      have dpart : fPart x (0 + (i : Int)).toNat = fPart x i := by rw [show (0 + (i : Int)).toNat = i by omega]
      have dstart : fStart (tl x) (0 + (i : Int)).toNat = fStart (tl x) i := by rw [show (0 + (i : Int)).toNat = i by omega]
      generalize fPart x i = part at *
      generalize fFit ws part = F at *
      walk_at "z"
      refine z_cut (fun σ' H' => σ' = [some (.ref a), some (.ref t), some (.ref mn), some (.ref D), none, some (.ref g), some (.ref p), some (.str x), some (.int (0 + (i : Int))), some (.int (fStart (tl x) i : Nat)), some (.str part), some (.ref sq), none, some (.str (fCommon F part)), none, none] ∧ W31 K H' a t ns 14 D g p l xs ws ∧ H' sq = some (.lst (F.map V.str))) ?_ ?_
      · walk_at "z"
        intro n0 hn0
        have W10 := W9.same (Same.new (Same.refl _) hn0 (o := .lst []))
        have hs10 : upd H9 n0 (.lst []) sq = some (.lst (F.map V.str)) := by rw [upd_ne (ne_of_none hs9 hn0)]; exact hs9
        refine z_neD (d := strD F) (e := strD []) (dp_strs (SqL.of hs10)) (.lst (SqL.of upd_same) .nil) (shaped_strs hfp) (shaped_strs (by simp)) ?_
        rw [eqv_strs]
        generalize upd H9 n0 _ = H10 at W10 hs10 ⊢
        clear W9 hs9 hn0
        cases F with
        | nil =>
          walk_at "z"
          exact ⟨rfl, W10, hs10⟩
        | cons s0 rest =>
          have h0l := hf4 s0 (by simp)
          have e0 := len_tl s0
          refine z_bl (z_ifT (by simp) ?_)
          walk_at "z"
          refine z_ixL (v := .str s0) (SqL.of hs10) (atI_nat (j := 0) rfl) ?_
          walk_at "z"
          refine z_while (fun c σ' H' => ∃ m : Nat, σ' = [some (.ref a), some (.ref t), some (.ref mn), some (.ref D), none, some (.ref g), some (.ref p), some (.str x), some (.int (0 + (i : Int))), some (.int (fStart (tl x) i : Nat)), some (.str part), some (.ref sq), none, some (.str (S ((tl s0).take m))), none, none] ∧ W31 K H' a t ns 14 D g p l xs ws ∧ H' sq = some (.lst ((s0 :: rest).map V.str)) ∧ m ≤ (tl s0).length ∧ lcpD s0 (s0 :: rest) m = lcpD s0 (s0 :: rest) s0.length ∧ c = m) s0.length ⟨s0.length, by rw [List.take_of_length_le (by omega)]; rfl, W10, hs10, by omega, rfl, rfl⟩ ?_
          clear W10 hs10
          rintro c σ' H10 ⟨m, rfl, W10, hs10, hm', hlc, hc⟩
          have hlm : (S ((tl s0).take m)).length = m := by rw [len_S, List.length_take]; omega
          walk_at "z"
          intro D4 hD4
          refine lc_lstP (xs := (s0 :: rest).map V.str) (fun _ => true) (fun v => match v with | .str w => .bl (Txt.startswith w (S ((tl s0).take m))) | _ => .non) (SqL.of hs10) (by rw [List.length_map]; omega) (by intro v; rfl) hD4 ?_ ?_ ?_
          · intro v hv H11 Q11 s11 q
            walk_at "z"
            exact q
          · intro v hv H11 Q11 _ s11 q
            obtain ⟨w, hw, rfl⟩ := mem_strs hv
            have hw9 : w.length ≤ sizeLine := by have := hf4 w hw; rw [sizeLine_eq]; omega
            have hm9 : (S ((tl s0).take m)).length ≤ sizeLine := by rw [hlm, sizeLine_eq]; omega
            walk_at "z"
            rw [starts_cut]
            exact q
          have s11 : Same H10 (upd H10 D4 (.lst ((((s0 :: rest).map V.str).filter fun _ => true).map (fun v => match v with | .str w => .bl (Txt.startswith w (S ((tl s0).take m))) | _ => .non)))) := Same.new (Same.refl _) hD4
          walk_at "z"
          refine z_all ((s0 :: rest).map fun w => Txt.startswith w (S ((tl s0).take m))) (SqL.of (by rw [upd_same, List.filter_eq_self.mpr (fun _ _ => rfl), List.map_map, List.map_map]; rfl)) ?_
          have ew : ((s0 :: rest).map fun w => Txt.startswith w (S ((tl s0).take m))).all id = wk s0 (s0 :: rest) m := by
            rw [take_starts hm', List.all_map]; rfl
          rw [ew]
          have W11 := W10.same s11
          have hs11 := s11 _ _ hs10
          generalize upd H10 D4 _ = H11 at W11 hs11 ⊢
          clear W10 hs10 hD4 s11
          walk_at "z"
          refine ite_b (fun g2 => ?_) (fun g2 => ?_)
          · have g2' : wk s0 (s0 :: rest) m = false := by simpa using g2
            have hmp : 0 < m := by
              rcases Nat.eq_zero_or_pos m with z | z
              · rw [z, wk_zero] at g2'; cases g2'
              · exact z
            refine z_turn ?_
            have hm9 : (S ((tl s0).take m)).length ≤ sizeLine := by rw [hlm, sizeLine_eq]; omega
            walk_at "z"
            have ed : cutS (S ((tl s0).take m)) none (some (-1)) = S ((tl s0).take (m - 1)) := by
              rw [cutS_eq, cutL_lastOff, tl_S, List.dropLast_eq_take, List.length_take, List.take_take]
              congr 2; omega
            rw [ed]
            have hst2 := lcpD_step (s0 := s0) (ws := s0 :: rest) (n := m - 1) (by rw [show m - 1 + 1 = m by omega]; exact g2')
            rw [show m - 1 + 1 = m by omega] at hst2
            exact ⟨m - 1, by omega, m - 1, rfl, W11, hs11, by omega, by rw [← hst2]; exact hlc, rfl⟩
          · have g2' : wk s0 (s0 :: rest) m = true := by simpa using g2
            walk_at "z"
            rw [lcpD_stop g2'] at hlc
            refine ⟨?_, W11, hs11⟩
            unfold fCommon
            simp only [← hlc]
      rintro σ' H10 ⟨rfl, W10, hs10⟩
      clear W9 hs9
      have hpc : plainS (fCommon F part) = true := by
        unfold fCommon
        cases F with
        | nil => exact hpp
        | cons s0 rest =>
          have := hfp s0 (by simp)
          unfold plainS at this ⊢
          rw [tl_S]
          exact List.all_eq_true.mpr fun c hc => List.all_eq_true.mp this c (List.mem_of_mem_take hc)
      walk_at "z"
      refine z_rng1e (by omega) (by omega) ?_
      intro D5 hD5
      refine lc_dataRng (K := K) [.int (fStart (tl x) i : Nat), strD F, .str (fCommon F part)] rfl (by decide) (by intro v; rfl) hD5 ?_ ?_
      · intro j d hd H11 Q11 s11 ⟨acc, hacc⟩ q
        have hj : j < 3 := (List.getElem?_eq_some_iff.mp hd).1
        have W11 := W10.same s11
        walk_at "z"
        refine ⟨p, l, ws, _, _, _, rfl, W11.fi, hwl, hw4, .inl ⟨x, rfl, okx, by omega, by omega, fun _ v H12 s12 gt => q v H12 s12 fun H13 f13 => ?_, fun z => absurd pl z⟩⟩
        have ed : wayD (0 + (j : Int)) ws x (0 + (i : Int)) = d := by
          unfold wayD
          rw [dstart, dfit, dpart]
          rcases j with _ | _ | _ | j
          · exact Option.some.inj hd
          · exact Option.some.inj hd
          · exact Option.some.inj hd
          · omega
        rw [ed] at gt
        exact got_go gt hacc f13
      intro H11 s11 d11
      have W11 := W10.same s11
      have hs11 := s11 _ _ hs10
      walk_at "z"
      intro q3 hq3
      refine z_neS (d := .list [.int (fStart (tl x) i : Nat), strD F, .str (fCommon F part)]) (dp_same d11 (Same.new (Same.refl _) hq3)) (.lst (SqL.of upd_same) (.cons (.int _) (.cons (dp_strs (SqL.of (by walk_at "h"))) (.cons (.str _) .nil)))) ?_ ?_
      · refine (Sh.lst (n := 1) (Shs.cons (Sh.mono .int (by decide)) (.cons (Sh.lst fun d hd => ?_) (.cons (Sh.mono (.str hpc) (by decide)) shs_nil)))).ok
        obtain ⟨w, hw, rfl⟩ := List.mem_map.mp hd
        exact .str (hfp w hw)
      walk_at "z"
      exact ⟨_, _, _, _, _, rfl, W11.same (Same.new (Same.refl _) hq3)⟩
    clear W10
    rintro σ' H7 ⟨v8, v9, v10, v11, v13, rfl, W⟩
    have hw7 := W.hw
    have hg7 := W.hg
    have hxp : ∀ y ∈ xs, plainS y = true := fun y hy => by
      have := (hxok y hy).1
      unfold wordOk at this
      exact plain_ok (Bool.and_eq_true_iff.mp this).1
    walk_at "z"
    refine z_neS (dp_strs (SqL.of hw7)) (dp_strs (SqL.of hg7)) (shaped_strs hxp) ?_
    walk_at "z"
    intro l1 hl1
    walk_at "z"
    intro l2 hl2
    walk_at "z"
    intro l3 hl3
    walk_at "z"
    intro l4 hl4
    walk_at "z"
    refine z_rep upd_same (by decide) (by decide) (by decide) fun l5 hl5 => ?_
    walk_at "z"
    intro q hq
    have nn : ∀ b, H7 b = none → b ≠ t := fun b hb => by
      obtain ⟨zs, e, _⟩ := W.bs.tw
      exact (ne_of_none e hb).symm
    have n1 := nn l1 hl1
    have n2 := nn l2 (fresh_of (by walk_at "sa") hl2)
    have n3 := nn l3 (fresh_of (by walk_at "sa") hl3)
    have n5 := nn l5 (fresh_of (by walk_at "sa") hl5)
    have sq : Same H7 (upd (upd (upd (upd (upd H7 l1 (.lst [.str "a b"])) l2 (.lst [.str ""])) l3 (.lst [.str "ok", .str "\n"])) l4 (.lst [.str "w"])) l5 (.lst (List.replicate (201 : Int).toNat [V.str "w"]).flatten)) := by walk_at "sa"
    have W2 := W.same sq
    have k1 : (upd (upd (upd (upd (upd H7 l1 (.lst [.str "a b"])) l2 (.lst [.str ""])) l3 (.lst [.str "ok", .str "\n"])) l4 (.lst [.str "w"])) l5 (.lst (List.replicate (201 : Int).toNat [V.str "w"]).flatten)) l1 = some (.lst [.str "a b"]) := by walk_at "h"
    have k2 : (upd (upd (upd (upd (upd H7 l1 (.lst [.str "a b"])) l2 (.lst [.str ""])) l3 (.lst [.str "ok", .str "\n"])) l4 (.lst [.str "w"])) l5 (.lst (List.replicate (201 : Int).toNat [V.str "w"]).flatten)) l2 = some (.lst [.str ""]) := by walk_at "h"
    have k3 : (upd (upd (upd (upd (upd H7 l1 (.lst [.str "a b"])) l2 (.lst [.str ""])) l3 (.lst [.str "ok", .str "\n"])) l4 (.lst [.str "w"])) l5 (.lst (List.replicate (201 : Int).toNat [V.str "w"]).flatten)) l3 = some (.lst [.str "ok", .str "\n"]) := by walk_at "h"
    have k5 : (upd (upd (upd (upd (upd H7 l1 (.lst [.str "a b"])) l2 (.lst [.str ""])) l3 (.lst [.str "ok", .str "\n"])) l4 (.lst [.str "w"])) l5 (.lst (List.replicate (201 : Int).toNat [V.str "w"]).flatten)) l5 = some (.lst ((List.replicate 201 (Str.ofString "w")).map V.str)) := by rw [upd_same]; rfl
    generalize upd (upd (upd (upd (upd H7 l1 _) l2 _) l3 _) l4 _) l5 _ = H8 at W2 k1 k2 k3 k5 hq ⊢
    clear W hl1 hl2 hl3 hl4 hl5 sq hw7 hg7
    walk_at "z"
    refine pick_bs W2.bs (by omega) hq (by simp) fun v hv H9 B9 f9 => ?_
    have W9 := W2.draw B9 f9
    have hv' : ∃ (b : Addr) (ys : List Str), v = .ref b ∧ H9 b = some (.lst (ys.map V.str)) ∧ (∀ y ∈ ys, y.length < sizeLine) ∧ ys.length < 1000 ∧ fillOk ys = false := by
      simp only [List.mem_cons, List.not_mem_nil, or_false] at hv
      rcases hv with rfl | rfl | rfl | rfl
      · exact ⟨l1, ["a b"], rfl, f9 _ _ k1 (not_mem1 n1), by decide +kernel, by decide, by decide +kernel⟩
      · exact ⟨l2, [""], rfl, f9 _ _ k2 (not_mem1 n2), by decide +kernel, by decide, by decide +kernel⟩
      · exact ⟨l3, ["ok", "\n"], rfl, f9 _ _ k3 (not_mem1 n3), by decide +kernel, by decide, by decide +kernel⟩
      · refine ⟨l5, _, rfl, f9 _ _ k5 (not_mem1 n5), fun y hy => ?_, by rw [List.length_replicate]; decide, ?_⟩
        · rw [List.eq_of_mem_replicate hy]; decide +kernel
        · unfold fillOk; rw [List.length_replicate]; rfl
    obtain ⟨b, ys, rfl, hb1, hb2, hb3, hb4⟩ := hv'
    walk_at "z"
    refine ⟨p, l, ws, 3, _, 0, rfl, W9.fi, hwl, hw4, .inr ⟨b, ys, rfl, rfl, SqL.of hb1, hb2, hb3, hb4, fun t1 H10 ht1 s10 h10 => ?_⟩⟩
    have W10 := W9.same s10
    walk_at "z"
    intro c1 hc1
    have s11 : Same H10 (upd H10 c1 (.tup [.str "refused", .str "text"])) := Same.new (Same.refl _) hc1
    refine z_neS (d := refD "text") (dp_ref (s11 _ _ h10)) (dp_ref upd_same) (Sh.tup (Shs.cons (.str (by decide +kernel)) (.cons (.str (by decide +kernel)) shs_nil))).ok ?_
    have W11 := W10.same s11
    generalize upd H10 c1 _ = H11 at W11 ⊢
    walk_at "z"
    refine z_rng1e (by omega) (by omega) ?_
    intro D6 hD6
    refine lc_refRng (n := 3) (w := "place") (by decide) (by intro v; rfl) hD6 ?_ ?_
    · intro i hi H4 Q4 s4 k4
      walk_at "z"
      exact ⟨p, l, ws, _, _, _, rfl, (W11.same s4).fi, hwl, hw4, .inl ⟨x, rfl, okx, by omega, by omega, fun z => absurd z.2 (by omega), fun _ => k4⟩⟩
    intro H4 e4
    exact z_refsEq (n := 3) e4 (by decide) (by decide +kernel) fun H5 s5 => k _
end

/-! the head: one run of the top, by the kernel -/
def loose0 : List PySem.Str := ["__name__", "HandError", "BadKey", "BadText", "BadSize", "BadPlace", "MOST_TEXT", "is_sign", "look_text", "look_place", "MOST_WORDS", "Filler", "_law_cell", "_law_mix", "_law_draw", "_law_pick", "_law_refusal", "_law_told"]
def loose : List PySem.Str := loose0
abbrev R : PySem.W.OpenRow := PySem.W.OpenLaw.row PySem.Challenge.rw_linehand_k31_whole_fills
abbrev hookP : PySem.W.Hook := hookY fa fn ex
def ob (s : PySem.W.SharedT) : AlY := obsY fa fn ex (HandSHeadRun.getT s)
theorem ob_eq (s : PySem.W.SharedT) : ob s = hookP.obs s.abs := obsY_eq (HandSHeadRun.getT_eq s)
theorem run (w : World) : HandSHeadRun.RunEq R (PySem.W.view R.prog [21]) hookP ob 4000 loose w := by
  intro os
  kernel_rfl
end LH
open PySem PySem.W PySem.Calls PyProof.Rows
theorem PySem.Challenge.cw_linehand_k31_whole_fills_holds : PySem.Challenge.rw_linehand_k31_whole_fills.Holds := by
  w_on; o_law
  refine HandSHeadRun.head_any (r := OpenLaw.row PySem.Challenge.rw_linehand_k31_whole_fills) (q := view (OpenLaw.row PySem.Challenge.rw_linehand_k31_whole_fills).prog [21]) (H := LH.hookP) (ob := LH.ob) (M := 4000) (loose := LH.loose) (d := HandSHeadRun.topDef (OpenLaw.row PySem.Challenge.rw_linehand_k31_whole_fills).prog 21) (kwd := []) LH.ob_eq (by kernel_rfl) (fun s => by kernel_rfl) LH.run (by kernel_rfl) (by kernel_rfl) (by kernel_rfl) (by rfl) (by first | assumption | decide +kernel) (by decide +kernel) ⟨rfl, rfl, rfl, rfl, rfl, by decide +kernel⟩ ?hw ?hc
  case hw => w_witness2
  case hc =>
    refine L2.walk_ofE (l := PySem.Challenge.rw_linehand_k31_whole_fills) (n := 63) (k := 7) (x := "script") (CX := L2.CX0) rfl (by decide) (by kernel_rfl) ⟨rfl, by decide, by decide⟩ ?F (fun _ _ _ _ z => z)
    intro w mg fa h Y G hmg0
    obtain ⟨K, KX, c⟩ := Y
    have hmg : mg ("law" : PySem.Str) = some (.ref fa) := by
      have e : (HandSHeadRun.topDef (OpenLaw.row PySem.Challenge.rw_linehand_k31_whole_fills).prog 21).name = ("law" : PySem.Str) := by kernel_rfl
      rw [← e]
      exact hmg0
    have T : LH.Tx K mg := ⟨c, h, KX, G⟩
    obtain ⟨fd, hB, hF⟩ := LH.f_law T
    have e1 : fa = He.ga K "law" := PySem.Value.ref.inj (Option.some.inj (hmg.symm.trans T.g_law))
    subst e1
    exact ⟨K, fd, LH.sp_law K, KX, fun s u => hB s [u] rfl, fun H a ns hl hO hS => ⟨a, ns, rfl, LH.Scr.of hl hO hS, fun _ => rfl⟩, fun base _ _ => LH.fnok0 (hF _ _ base) fun _ _ _ _ z => z⟩
