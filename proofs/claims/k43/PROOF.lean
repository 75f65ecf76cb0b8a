import PyProof.Rows.All
import Wide.All
import OpenK.AllK
import Wide.FinOn
import PyProof.EqAt
import PyProof.EqKinds
import PyProof.TupleCall
import KE.KStateDown
import Lean
import HandS.ForMost
import HandS.ForExc
import HandS.ExcIs
import HandS.IsInst
import HandS.Flow
import HandS.StrMore
import HandS.RevRange
import HandS.Deep
import HandS.DeepEq
import HandS.Defaults
import HandS.Evl
import HandS.Head0
import HandS.Head1
import HandS.Head2
import HandS.HeadEnd
import HandS.HeadHook1
import HandS.HeadHook2
import HandS.HeadHook3
import HandS.HeadHook4
import HandS.Style
import HandS.SetFor
import PySem.Challenge.RW_linehand_k43_whole_searches
set_option Elab.async false
set_option linter.all false
set_option maxRecDepth 100000
set_option maxHeartbeats 4000000
namespace LH
open PySem PySem.Spec PyProof.Rows L2

/-! ### a def, a method, a class that keeps its promise, by names -/
section
variable (P : Program) (w : World) (K : PySem.W.Frag) (mg : Str → Option Value) (base : Heap)
structure Fn (x : Str) (k : Nat) (ps : List Str) (sp : Sp) : Prop where
  ex : ∃ f fd, FnOk P w K mg base (L2.CX P w) k f fd ps sp ∧ mg x = some (.ref f) ∧ PySem.W.keepIn K (.ref f) = true ∧ Binds K fd ps [] ∧ ∀ (s : Shared) (us : List Value), us.length = ps.length → BindsTo s fd ⟨us, []⟩ (ps.zip us)
structure Mt (C : Addr) (m : Str) (k : Nat) (ps : List Str) (sp : Sp) : Prop where
  ex : ∃ f fd, FnOk P w K mg base (L2.CX P w) k f fd ps sp ∧ Meth K C m f ∧ Cls K C ∧ Binds K fd ps []
structure Mkr (x : Str) (C : Addr) (k : Nat) (ps : List Str) (sp : Sp) : Prop where
  ex : ∃ f fd, FnOk P w K mg base (L2.CX P w) k f fd ps sp ∧ Mk K C f ∧ mg x = some (.ref C) ∧ Binds K fd ps []
end

section
variable {X : Cx} {W : WX} {k : Nat} {ps : List Str} {sp : Sp} {x m : Str} {C : Addr} {p pos apos : Pos} {e o : Expr} {es : List Expr} {t : TA} {ta : TE}
theorem pe_fn (F : Fn X.prog X.w X.K X.mg X.base x k ps sp) (hr : Room k X.A) (tk : Takes X W) (ha : PA X (e :: es) t) (hg : Gl X x := by rfl) (hdb : (x == ("__debug__" : Str)) = false := by decide)
    (he : starEach (e :: es) X.env = (false, eval e X.env) :: starEach es X.env := by rfl) (hpl : (backTo pos (starEach es X.env)).any (·.1) = false := by rfl) : PE X (.Call (.Name x p) (e :: es) [] pos) (tCallS sp (WE W) t) := by
  obtain ⟨f, fd, F, hm, hk, hb, _⟩ := F.ex
  exact pe_callS F hr hg hm hk hb (passAt tk) ha hdb he hpl
theorem pe_fn0 (F : Fn X.prog X.w X.K X.mg X.base x k ps sp) (hr : Room k X.A) (tk : Takes X W) (hg : Gl X x := by rfl) (hdb : (x == ("__debug__" : Str)) = false := by decide) : PE X (.Call (.Name x p) [] [] pos) (tCallS sp (WE W) tNil) := by
  obtain ⟨f, fd, F, hm, hk, hb, _⟩ := F.ex
  refine ⟨fun pins s σ H Q I h => ?_⟩
  refine wpAny_Call_Name_kw (ld_glob I hg hm ?_ hdb)
  exact PySem.W.callWith_K0 I.kIn hk (run_fnS (us := []) (vs := []) F hr hb (passAt tk σ) I .nil h)
def tMt (C : Addr) (m : Str) (sp : Sp) (E : L2.St → XK) (ta : TE) (t : TA) : TE := fun σ H Q => ta σ H fun x H1 => ∃ a dx fs, x = .ref a ∧ H1 a = some (.ins C dx fs) ∧ fs.lookup m = none ∧ t σ H1 fun vs H2 => sp (x :: vs) H2 Q (E σ)
theorem pe_mt {pl : Sem Bool} (he : PE X o ta) (M : Mt X.prog X.w X.K X.mg X.base C m k ps sp) (hr : Room k X.A) (tk : Takes X W) (ha : PA X (e :: es) t)
    (hst : starEach (e :: es) X.env = (false, eval e X.env) :: starEach es X.env := by rfl) (hpl : (backTo pos (starEach es X.env)).any (·.1) = false := by rfl)
    (ht : eval (.Call (.Attribute o m apos) (e :: es) [] pos) X.env = (eval o X.env >>= fun ov => standAt apos.atName >>= fun _ => holding [ov] (getMethod ov m pl) >>= fun q => callWith pos q.1 q.2 (backTo pos (starEach (e :: es) X.env)) (backToKw pos (keywordEach [] X.env))) := by rfl) :
    PE X (.Call (.Attribute o m apos) (e :: es) [] pos) (tMt C m sp (WE W) ta t) := by
  obtain ⟨f, fd, F, hm, c, hb⟩ := M.ex
  refine ⟨fun pins s σ H Q I h => PySem.W.methodCall_KW (pl := pl) (thn (he.run pins s σ H _ I h) ?_) ht⟩
  rintro u s1 ⟨x, H1, I1, rx, a, dx, fs, rfl, ea, l, q⟩
  obtain rfl : u = Value.ref a := rx
  refine getmeth_ok I1 ea c hm l (PySem.W.callWith_K (first := [.ref a]) (h₀ := X.base) I.ok.mod.kin hm.kp (thn (ha.run pos pins s1 σ H1 _ I1 q) ?_) hst hpl)
  rintro us s2 ⟨vs, H2, I2, r, q2⟩
  exact ⟨I2.kIn, run_fnS (us := .ref a :: us) (vs := .ref a :: vs) F hr hb (passAt tk σ) I2 (.cons rfl r) q2⟩
theorem pe_mt0 {pl : Sem Bool} (he : PE X o ta) (M : Mt X.prog X.w X.K X.mg X.base C m k ps sp) (hr : Room k X.A) (tk : Takes X W)
    (ht : eval (.Call (.Attribute o m apos) [] [] pos) X.env = (eval o X.env >>= fun ov => standAt apos.atName >>= fun _ => holding [ov] (getMethod ov m pl) >>= fun q => callWith pos q.1 q.2 (backTo pos (starEach [] X.env)) (backToKw pos (keywordEach [] X.env))) := by rfl) :
    PE X (.Call (.Attribute o m apos) [] [] pos) (tMt C m sp (WE W) ta tNil) := by
  obtain ⟨f, fd, F, hm, c, hb⟩ := M.ex
  refine ⟨fun pins s σ H Q I h => PySem.W.methodCall_KW (pl := pl) (thn (he.run pins s σ H _ I h) ?_) ht⟩
  rintro u s1 ⟨x, H1, I1, rx, a, dx, fs, rfl, ea, l, q⟩
  obtain rfl : u = Value.ref a := rx
  exact getmeth_ok I1 ea c hm l (PySem.W.callWith_K0 (first := [.ref a]) I1.kIn hm.kp (run_fnS (us := [.ref a]) (vs := [.ref a]) F hr hb (passAt tk σ) I1 (.cons rfl .nil) q))
def tMk (C : Addr) (sp : Sp) (E : L2.St → XK) (t : TA) : TE := fun σ H Q => t σ H fun vs H1 => ∀ x dx, H1 x = none → H1 dx = none → dx ≠ x →
  sp (.ref x :: vs) (upd (upd H1 dx (.own x)) x (.ins C dx [])) (fun v H2 => v = .non ∧ Q (.ref x) H2) (E σ)
theorem run_mkS {f : Addr} {fd : FuncData} {E : XK} {pins : List (Addr × Obj)} {σ : L2.St} {H : Hp} {s : Shared} {Q : VK} {us : List Value} {vs : List V} (M : Mk X.K C f) (F : FnOk X.prog X.w X.K X.mg X.base (L2.CX X.prog X.w) k f fd ps sp) (hr : Room (k + 1) X.A) (hb : Binds X.K fd ps [])
    (hx : PassesAt (L2.CX X.prog X.w) X σ E) (I : Inv X pins σ H s) (r : Vals vs us)
    (h : ∀ x dx, H x = none → H dx = none → dx ≠ x → sp (.ref x :: vs) (upd (upd H dx (.own x)) x (.ins C dx [])) (fun v H2 => v = .non ∧ Q (.ref x) H2) E) : wpAny (model X.prog X.w) X.A (call (.ref C) us) (EP X pins σ Q) X.xe s := by
  have hq := h (s.heap.objs.size + 1) s.heap.objs.size (I.hok.fresh (Nat.le_succ _)) (I.hok.fresh (Nat.le_refl _)) (Nat.ne_of_lt (Nat.lt_succ_self _))
  have J := Inv.made (C := C) I
  have r2 : Vals (V.ref (s.heap.objs.size + 1) :: vs) (Value.ref (s.heap.objs.size + 1) :: us) := .cons rfl r
  have hl : ((Value.ref (s.heap.objs.size + 1) :: us) ++ []).length = ps.length := by
    rw [List.append_nil, ← r2.length, F.len _ _ _ _ hq]
  have hbs := hb _ (Value.ref (s.heap.objs.size + 1) :: us) J.kIn hl
  rw [List.append_nil] at hbs
  refine wpAny_call (make_map (f := f) I.kIn M.makes M.init (beq_iff_eq.mp M.fn) (codeAny_mono (F.run _ X.stack _ _ ⟨Value.ref (s.heap.objs.size + 1) :: us, []⟩ _ _ _ E (hr.make C us []) (J.env0.make C us []) hbs r2 hq) ?_))
  rintro (e | fl) s' hz
  · exact hx pins _ _ e s' J hz
  · cases fl with
    | ret u =>
      obtain ⟨v, H', I3, rv, ev, q3⟩ := J.after hz
      subst ev
      exact ⟨rv, ⟨V.ref (s.heap.objs.size + 1), H', I3, rfl, q3⟩⟩
    | _ => exact False.elim hz
theorem pe_mk (M : Mkr X.prog X.w X.K X.mg X.base x C k ps sp) (hr : Room (k + 1) X.A) (tk : Takes X W) (ha : PA X (e :: es) t) (hg : Gl X x := by rfl) (hdb : (x == ("__debug__" : Str)) = false := by decide)
    (he : starEach (e :: es) X.env = (false, eval e X.env) :: starEach es X.env := by rfl) (hpl : (backTo pos (starEach es X.env)).any (·.1) = false := by rfl) : PE X (.Call (.Name x p) (e :: es) [] pos) (tMk C sp (WE W) t) := by
  obtain ⟨f, fd, F, M, hm, hb⟩ := M.ex
  refine ⟨fun pins s σ H Q I h => wpAny_Call_Name_kw (ld_glob I hg hm (PySem.W.callWith_K (h₀ := X.base) I.ok.mod.kin M.kp (thn (ha.run pos pins s σ H _ I h) ?_) he hpl) hdb)⟩
  rintro us s1 ⟨vs, H1, I1, r, q⟩
  exact ⟨I1.kIn, run_mkS M F hr hb (passAt tk σ) I1 r q⟩
end
theorem fnok0 {P : Program} {w : World} {K : PySem.W.Frag} {mg : Str → Option Value} {base : Heap} {k : Nat} {f : Addr} {fd : FuncData} {ps : List Str} {sp : Sp} (F : FnOk P w K mg base (L2.CX P w) k f fd ps sp) (h : ∀ vs H Q E, sp vs H Q E → sp vs H Q E0) : FnOk P w K mg base CX0 k f fd ps sp := by
  refine ⟨F.len, fun A outer s H args us vs Q E hr he hb hv hs => codeAny_mono (F.run A outer s H args us vs Q E0 hr he hb hv (h _ _ _ _ hs)) ?_⟩
  rintro (e | fl) s' q
  · obtain ⟨_, _, _, _, _, _, _, _, _, _, _, _, z⟩ := q
    exact z.elim
  · cases fl <;> exact q

/-! ### a caught exception is tracked behind its suite -/
/-- an exception object of the class cls at a -/
def XO (cls : Value) (d : Option Addr) (a : Addr) : HO := .ext fun h => ∃ (oe : Obj) (vs : Array Value), h.get? a = some oe ∧ Zc cls d oe ∧ oe.data = .fields vs
theorem xo_ok {P : Program} {w : World} {H : Hp} {h : Heap} {a : Addr} {cls : Value} {d : Option Addr} {oe : Obj} {vs : Array Value} (e : h.get? a = some oe) (z : Zc cls d oe) (dd : oe.data = .fields vs) : ObjOk P w H h a (XO cls d a) :=
  ⟨⟨oe, vs, e, z, dd⟩, ⟨oe, e⟩, fun _ _ ⟨o, v, q, r⟩ k => ⟨o, v, k o q, r⟩⟩
section
variable {X : Cx} {pins : List (Addr × Obj)} {σ : L2.St} {H : Hp} {s : Shared}
theorem track {a : Addr} {ho : HO} (I : Inv X pins σ H s) (hn : H a = none) (h0 : X.s_0.heap.get? a = none) (hL : a ≠ X.env.locals) (hp : ∀ p ∈ X.pn ++ pins, p.1 ≠ a)
    (hc : ∀ x c, X.env.cells.lookup x = some c → c ≠ a) (ok : ObjOk X.prog X.w (upd H a ho) s.heap a ho) : Inv X pins σ (upd H a ho) s := by
  have nz : ∀ b u, H b = some u → b ≠ a := fun b u e => ne_of_none e hn
  have n0 : ∀ b o, X.s_0.heap.get? b = some o → b ≠ a := fun b o e z => by rw [z, h0] at e; cases e
  have B := I.base
  refine ⟨I.ok, I.os, I.bare, ⟨B.keep, B.slot, fun b o e n hx => ?_, B.there, fun b xs e => ?_, fun b o u e => ?_, fun b ps e => ?_⟩, I.loc, I.cell, ?_, fun x c e => ?_, fun p q => ?_, fun b u e => ?_, I.len⟩
  · rw [upd_ne (n0 b o e)]; exact B.free b o e n hx
  · have q := B.tups b xs e; rw [upd_ne (nz b _ q)]; exact q
  · have q := B.frzs b o u e; rw [upd_ne (nz b _ q)]; exact q
  · obtain ⟨m, q⟩ := B.tbls b ps e; exact ⟨m, by rw [upd_ne (nz b _ q)]; exact q⟩
  · rw [upd_ne (Ne.symm hL)]; exact I.free
  · rw [upd_ne (hc x c e)]; exact I.freeC x c e
  · obtain ⟨a1, a2, a3⟩ := I.pin p q; exact ⟨a1, by rw [upd_ne (hp p q)]; exact a2, a3⟩
  · by_cases hb : b = a
    · subst hb; rw [upd_same] at e; cases e; exact ok
    · rw [upd_ne hb] at e
      exact (I.hok b u e).stay (fun c v _ q => q) (fun c q => by rw [upd_ne (nz c _ q)]; exact q) fun c xs q => by rw [upd_ne (nz c _ q)]; exact q
/-- what is wished of a raise in the body: the suite's reading, behind it the exception is tracked -/
def wTrk (K : PySem.W.Frag) (c : Value) (i : Nat) (ts : Addr → Value → Option Addr → TS) (Wout : WX) (D : Ends) : WX := fun cls d σ H =>
  ∃ b, PySem.W.exmOne K cls c = some b ∧ (b = true → ∀ a, H a = none → ts a cls d { nx := fun σ' H' => H' a = none → D.nx (σ'.set i none) (upd H' a (XO cls d a)), rt := fun v H' => H' a = none → D.rt v (upd H' a (XO cls d a)), bk := fun σ' H' => H' a = none → D.bk (σ'.set i none) (upd H' a (XO cls d a)), ct := fun σ' H' => H' a = none → D.ct (σ'.set i none) (upd H' a (XO cls d a)) } (σ.set i (some (.ref a))) H) ∧
    (b = false → Wout cls d σ H)
variable {i : Nat} {n x : Str} {c : Value} {body suite : List Stmt} {b0 : Stmt} {np pos pos' : Pos} {tb : WX → TS} {ts : Addr → Value → Option Addr → TS} {Wout : WX}
theorem ps_try_trk (hs : X.stack = X.env :: X.outer) (hf : X.env.frame = some X.env.locals) (hex : X.ex = []) (hN : X.N.Nodup) (hi : X.N[i]? = some n) (hln : X.env.kindOf n = some .local) (hc : Names X x c) (tk : Takes X Wout)
    (hb : ∀ (W : WX) (pn : List (Addr × Obj)) (xe : Value → Shared → Prop), Takes (X.tr pn xe) W → PassesOwn (model X.prog X.w) X.A X.env xe → PSs (X.tr pn xe) body (tb W))
    (hsu : ∀ (a : Addr) (oe : Obj) (cls : Value) (d : Option Addr) (pn : List (Addr × Obj)), Zc cls d oe → (∃ vs, oe.data = .fields vs) → PSs (X.suite a ((a, oe) :: pn)) (b0 :: suite) (ts a cls d)) :
    PS X (.Try body [.ExceptHandler (some (.Name x np)) (some n) (b0 :: suite) pos'] [] [] pos) (fun D σ H => tb (wTrk X.K c i ts Wout D) D σ H) := by
  refine ⟨fun pins s σ H D I h => wpAny_Try_except ?_⟩
  have ok := I.ok
  have hfr : X.A.frames = some (X.env :: X.outer) := ok.frames.trans (congrArg some hs)
  have hloc : Loc X.env.scope n := .inl hln
  refine wpAny_mono ((hb (wTrk X.K c i ts Wout D) (X.pn ++ pins) (fun e s1 => wpAny (model X.prog X.w) X.A (noteFrame e X.env) (fun _ s2 => wpAny (model X.prog X.w) X.A (setFlight e none) (fun _ s3 => wpAny (model X.prog X.w) X.A (handleBy e X.env [.ExceptHandler (some (.Name x np)) (some n) (b0 :: suite) pos']) (SP X pins D) X.xe s3) X.xe s2) X.xe s1) (fun u s' xx => ?_) PassesOwn.looking).run [] s σ H D (I.toTry _) h) (fun f s1 hsp => ?_) (fun e s1 he => he)
  · obtain ⟨a, B, sI, pins', σ', H', cls, d, rfl, J', nb, up, sky, na, os, ag, b, hb1, hyes, hno⟩ := xx
    have J : Inv X pins σ' H' sI := J'.ofTry ok
    refine Sky.land Zc.steady hfr hf (hs ▸ sky) fun h3 fl3 up3 => ?_
    have J3 : Inv X pins σ' H' { s' with heap := h3 } := J.landed nb fl3.1 (up.trans up3) os ag
    obtain ⟨oe3, vs3, he3, hz3, hd3⟩ := fl3.there
    have nfr : a ∉ frs (X.env :: X.outer) := fun hm => by
      obtain ⟨_, o', e', hnf⟩ := fl3.2.2.1.mem hm
      rw [he3] at e'; cases e'
      exact hnf _ hd3
    have nL : a ≠ X.env.locals := fun z => nfr (List.mem_filterMap.mpr ⟨X.env, List.mem_cons_self, by rw [hf, z]⟩)
    have nF : a ∉ X.fs := fun hm => by
      obtain ⟨e, he, q⟩ := List.mem_filterMap.mp hm
      exact nfr (List.mem_filterMap.mpr ⟨e, List.mem_cons_of_mem _ he, q⟩)
    have nI : sI.heap.get? a = none := by
      cases e : sI.heap.get? a with
      | none => rfl
      | some o => exact absurd ((nb a o e (by rw [hs]; exact nfr)).symm.trans fl3.2.1) (by intro q; cases q)
    have n0 : X.s_0.heap.get? a = none := by
      cases e : X.s_0.heap.get? a with
      | none => rfl
      | some o =>
        obtain ⟨o', q⟩ := J.base.there a o e (by rw [hex]; exact fun z => nomatch z)
        rw [nI] at q; cases q
    have nP : ∀ p ∈ X.pn ++ pins, p.1 ≠ a := fun p hp z => by
      have q := (J.pin p hp).1
      rw [z, nI] at q; cases q
    have nC : ∀ y c', X.env.cells.lookup y = some c' → c' ≠ a := fun y c' e z => by
      obtain ⟨v, o, ho, _⟩ := J.cell y c' e
      rw [z, nI] at ho; cases ho
    have S3 := J3.suite he3 hd3 na nL nF
    refine wpAny_handleBy_cons (codeAny_handlers_test ?_) (by intro q; cases q)
    have LT : PySem.W.Looks (model X.prog X.w) h3 (typeOf (.ref a)) cls := fun A Q E s k q => wpAny_typeOf_ref (k _ _ he3) (by rw [hz3.1]; exact q)
    have LM := PySem.W.exm_one (M := model X.prog X.w) (J3.kIn) LT hb1
    have test : ∀ {Q : Value → Shared → Prop} {E : Value → Shared → Prop}, Q c { s' with heap := h3 } → wpAny (model X.prog X.w) (X.A.mark (some (.ref a))) (eval (.Name x np) X.env) Q E { s' with heap := h3 } := fun {Q E} q => by
      rcases hc with ⟨hg, hdbg, hm | ⟨hm, hv, hnn⟩⟩
      · exact ld_glob (X := X.suite a ((a, oe3) :: (X.pn ++ pins))) S3 hg hm q hdbg
      · exact ld_blt (X := X.suite a ((a, oe3) :: (X.pn ++ pins))) S3 hg hm hv q hnn hdbg
    refine test (LM.here ?_)
    cases b with
    | true =>
      refine codeAny_handlers_suite_as (HandSPX.lands_againZ fl3 fun h4 fl4 up4 => ?_)
      have J4 : Inv X pins σ' H' { s' with heap := h4 } := J.landed nb fl4.1 ((up.trans up3).trans up4) os ag
      obtain ⟨oe4, vs4, he4, hz4, hd4⟩ := fl4.there
      refine store_ok (X := X.suite a ((a, oe4) :: (X.pn ++ pins))) (v := .ref a) (J4.suite he4 hd4 na nL nF) hN hi hloc rfl (fun s5 S5 => ?_) (.inr hln)
      refine wpAny_mono ((hsu a oe4 cls d (X.pn ++ pins) hz4 ⟨_, hd4⟩).run [] s5 _ H' _ S5 (hyes rfl a na)) (fun f s6 hsp => ?_) (fun _ _ z => False.elim z)
      have fin : ∀ {σ6 : L2.St} {H6 : Hp} {Q : Shared → Prop}, Inv (X.suite a ((a, oe4) :: (X.pn ++ pins))) [] σ6 H6 s6 → (H6 a = none → ∀ s7, Inv X pins (σ6.set i none) (upd H6 a (XO cls d a)) s7 → Q s7) →
          wpAny (model X.prog X.w) X.A (bindName X.env n .none >>= fun _ => unbindBehindTheSuite X.env n pos') (fun _ s7 => Q s7) X.xe s6 := fun {σ6 H6 Q} S6 hq => by
        obtain ⟨g1, g2, _⟩ := S6.pin (a, oe4) (List.mem_append_left _ List.mem_cons_self)
        exact gone_ok (track (S6.unsuite ok) g2 n0 nL nP nC (xo_ok g1 hz4 hd4)) hN hi hln (hq g2)
      cases f with
      | next => obtain ⟨σ6, H6, S6, q6⟩ := hsp; exact fin S6 fun g s7 J7 => ⟨_, _, J7, q6 g⟩
      | brk => obtain ⟨σ6, H6, S6, q6⟩ := hsp; exact fin S6 fun g s7 J7 => ⟨_, _, J7, q6 g⟩
      | cont => obtain ⟨σ6, H6, S6, q6⟩ := hsp; exact fin S6 fun g s7 J7 => ⟨_, _, J7, q6 g⟩
      | ret u => obtain ⟨v6, σ6, H6, S6, r6, q6⟩ := hsp; exact fin S6 fun g s7 J7 => ⟨_, _, _, J7, r6, q6 g⟩
    | false =>
      show wpAny _ X.A (handleBy (.ref a) X.env []) _ _ _
      refine wpAny_handleBy_nil ?_
      obtain ⟨k1, k2, k3, oe, vs, T, oT, ts', he, hz, hd, h1, hr⟩ := id fl3
      unfold PySem.passOn
      refine wpAny_bind (wpAny_field he hd h1 ?_)
      rw [if_neg (show ¬ ((Value.ref T == Value.none) = true) from by simp)]
      have fin : wpAny (model X.prog X.w) X.A (setFlight (.ref a) X.env.frame) (fun _ s4 => wpAny (model X.prog X.w) X.A (throw (.ref a) : Sem Flow) (SP X pins D) X.xe s4) X.xe { s' with heap := h3 } := by
        rw [hf]
        refine HandSPX.setFlight_upZ fl3 fun h4 hh4 up4 => wpAny_throw (tk _ _ ?_)
        exact ⟨a, B, sI, pins, σ', H', cls, d, rfl, J, nb, (up.trans up3).trans up4, .inr (.inr (by rw [hs]; exact hh4)), na, os, ag, hno rfl⟩
      first
        | exact wpAny_bind (wpAny_pure (wpAny_bind fin))
        | exact wpAny_bind fin
  · cases f with
    | next => obtain ⟨σ', H', J', q⟩ := hsp; exact wpAny_execs_nil ⟨σ', H', J'.ofTry ok, q⟩
    | brk => obtain ⟨σ', H', J', q⟩ := hsp; exact ⟨σ', H', J'.ofTry ok, q⟩
    | cont => obtain ⟨σ', H', J', q⟩ := hsp; exact ⟨σ', H', J'.ofTry ok, q⟩
    | ret u => obtain ⟨v, σ', H', J', r, q⟩ := hsp; exact ⟨v, σ', H', J'.ofTry ok, r, q⟩
end
/-! ### isinstance of such -/
def rIsX (K : PySem.W.Frag) : List V → Hp → VK → Prop := fun xs H Q => ∃ (a D : Addr) (c : V) (cv : Value) (b : Bool), xs = [.ref a, c] ∧ H a = some (XO (.ref D) none a) ∧ ExcC K D ∧ ClsV c cv ∧ PySem.W.kitOne K (.ref D) cv = some b ∧ Q (.bl b) H
theorem call_isX {X : Cx} : CallR X (.builtin "isinstance") (rIsX X.K) := by
  intro pins s σ H xs us Q I r h
  obtain ⟨a, D, c, cv, b, rfl, ha, C, hcv, e, q⟩ := h
  obtain ⟨u1, u2, rfl, r1, r2⟩ := vals2 r
  cases (show u1 = Value.ref a from r1)
  have ec := hcv.eq r2
  subst ec
  obtain ⟨⟨oe, vs, hget, hz, hv⟩, _⟩ := (show ObjOk X.prog X.w H s.heap a (XO (.ref D) none a) from I.hok a _ ha)
  have J : PySem.W.InstAt s.heap a oe D none := by
    obtain ⟨oc, od, oda, osl⟩ := oe
    obtain ⟨h1, h2⟩ := hz
    dsimp only at h1 h2 hv
    subst h1 h2 hv
    exact ⟨hget, rfl, rfl, trivial⟩
  exact PySem.W.kia_one (PySem.W.handS_kitx_exc C.hg C.hk C.hs C.hd C.ha C.hn C.ht C.hm) I.kIn J e (fun z => nomatch z) fun tk => ⟨.bl b, H, I.kept (t' := tk) fun _ _ z => z, rfl, q⟩

/-! ### rules in the form that the walks use -/
section
variable {P : Program} {w : World} {K : PySem.W.Frag} {mg : Str → Option Value} {base : Heap} {N : List Str} {qual : Str} {scope : Scope} {f : Addr} {cd : Value} {A : Around} {outer : List Env} {s : Shared} {H : Hp} {E : XK}
theorem tkOf : Takes (cxOf (L2.CX P w) P w K mg base N qual scope f cd A outer s H E) (fun cls d _ H => E cls d H) := takes_of rfl rfl rfl rfl
theorem passOf : PassesOwn (model P w) (cxOf (L2.CX P w) P w K mg base N qual scope f cd A outer s H E).A (cxOf (L2.CX P w) P w K mg base N qual scope f cd A outer s H E).env (cxOf (L2.CX P w) P w K mg base N qual scope f cd A outer s H E).xe := passes_of rfl
end
section
variable {X : Cx} {a b e o value : Expr} {ta tb te tv : TE} {tA : TT} {pos pos' : Pos} {x f : Str} {C : Addr}
theorem pe_gcon {v : V} (h : ∃ u, X.mg x = some u ∧ RelV v u) (hg : Gl X x := by rfl) (hd : (x == ("__debug__" : Str)) = false := by decide) : PE X (.Name x pos) (tC v) := by
  obtain ⟨u, hm, r⟩ := h
  exact pe_glob hg hm r hd
theorem pe_gref {a : Addr} (h : X.mg x = some (.ref a)) (hg : Gl X x := by rfl) (hd : (x == ("__debug__" : Str)) = false := by decide) : PE X (.Name x pos) (tC (.ref a)) := pe_glob hg h rfl hd
/-- o.f, o an instance of the class at C -/
def tGet (C : Addr) (ta : TE) (f : Str) : TE := fun σ H Q => ta σ H fun x H1 => ∃ a dx fs v, x = .ref a ∧ H1 a = some (.ins C dx fs) ∧ fs.lookup f = some v ∧ Q v H1
theorem pe_get (c : Cls X.K C) (n : NoAttr X.K C f) (he : PE X e ta) (hb : attributeBase e f X.env (eval e X.env) = eval e X.env := by rfl) : PE X (.Attribute e f pos) (tGet C ta f) := by
  refine ⟨fun pins s σ H Q I h => attr_of hb (thn (he.run pins s σ H _ I h) ?_)⟩
  rintro u s1 ⟨x, H1, I1, rx, a, dx, fs, v, rfl, ea, l, q⟩
  obtain rfl : u = Value.ref a := rx
  exact getattr_ok I1 ea c n l fun u' s2 I2 ru => ⟨v, H1, I2, ru, q⟩
/-- o.f = v -/
def tPut (C : Addr) (ta tv : TE) (f : Str) : TS := fun D σ H => tv σ H fun y H1 => ta σ H1 fun x H2 => ∃ a dx fs, x = .ref a ∧ H2 a = some (.ins C dx fs) ∧ fs.length < 1000 ∧ D.nx σ (upd H2 a (.ins C dx (putF f y fs)))
theorem ps_put (c : Cls X.K C) (n : NoAttr X.K C f) (ha : PE X o ta) (hv : PE X value tv) (hs : swapsWith value (some (.Attribute o f pos')) pos.line X.env = pure false := by rfl) : PS X (.Assign [.Attribute o f pos'] value pos) (tPut C ta tv f) := by
  refine ⟨fun pins s σ H D I h => plainObj_wpAny_Assign_Attribute (thn (hv.run pins s σ H _ I h) ?_) hs⟩
  rintro u s1 ⟨y, H1, I1, ry, q⟩
  refine thn (ha.run pins s1 σ H1 _ I1 q) ?_
  rintro ov s2 ⟨x, H2, I2, rx, a, dx, fs, rfl, ea, l, q2⟩
  obtain rfl : ov = Value.ref a := rx
  exact setattr_ok I2 ea c n l ry fun s3 I3 => ⟨σ, _, I3, q2⟩
/-- a value's truth as a test -/
def tTr (K : PySem.W.Frag) (ta : TE) : TT := fun σ H Q => ta σ H fun x H1 => ∃ k, TruV K x H1 k ∧ Q k H1
theorem pt_tr (ha : PE X a ta) (he : ∀ whole, isTrue a X.env whole = (do let v ← whole; standAt a.pos; holding [v] (truthy v)) := by intro _; rfl) : PT X a (tTr X.K ta) := pt_truth ha he
def rLn (K : PySem.W.Frag) : List V → Hp → VK → Prop := fun xs H Q => ∃ x n, xs = [x] ∧ LenV K x H n ∧ Q (.int n) H
theorem call_ln : CallR X (.builtin "len") (rLn X.K) := call_len
def rOrd : List V → Hp → VK → Prop := fun xs H Q => ∃ x, xs = [.str x] ∧ x.length = 1 ∧ Q (.int (x.cps.getD 0 0 : Nat)) H
theorem call_or : CallR X (.builtin "ord") rOrd := call_ord
def rMin2 : List V → Hp → VK → Prop := fun xs H Q => ∃ i j, xs = [.int i, .int j] ∧ Q (.int (if j < i then j else i)) H
def rMax2 : List V → Hp → VK → Prop := fun xs H Q => ∃ i j, xs = [.int i, .int j] ∧ Q (.int (if j > i then j else i)) H
theorem call_mn (hc : X.calm = true) : CallR X (.builtin "min") rMin2 := call_min2 hc
theorem call_mx (hc : X.calm = true) : CallR X (.builtin "max") rMax2 := call_max2 hc
def rLstOf (K : PySem.W.Frag) : List V → Hp → VK → Prop := fun xs H Q => ∃ p ys, xs = [.ref p] ∧ (SqL K H p ys ∨ SqT K H p ys) ∧ ∀ l, H l = none → Q (.ref l) (upd H l (.lst ys))
theorem call_lo : CallR X (.type "list") (rLstOf X.K) := call_list_of
def rStrI : List V → Hp → VK → Prop := fun xs H Q => ∃ i, xs = [.int i] ∧ i.natAbs.log2 < 1920 ∧ Q (.str (toString i)) H
theorem call_si : CallR X (.type "str") rStrI := call_str_int
def rAddS : R2 := fun x y H Q => ∃ i j, x = .str i ∧ y = .str j ∧ i.length + j.length ≤ sizeLine ∧ Q (.str (i ++ j)) H
theorem op_addS : OpR X (binaryOp .Add) rAddS := op_add_str
def rInStr : R2 := fun x y H Q => ∃ i j, x = .str i ∧ y = .str j ∧ Q (.bl (!(Builtin.Str.occurrences j i 0 j.length 1).isEmpty)) H
theorem op_inStr : OpR X (compareOp .In) rInStr := op_in_str
def rIsNon : R2 := fun x y H Q => y = .non ∧ Q (.bl (decide (x = .non))) H
def rNotNon : R2 := fun x y H Q => y = .non ∧ Q (.bl (!decide (x = .non))) H
theorem op_isNon : OpR X (compareOp .Is) rIsNon := op_isN
theorem op_notNon : OpR X (compareOp .IsNot) rNotNon := op_notN
def rMulS : R2 := fun x y H Q => ∃ z n, x = .str z ∧ y = .int n ∧ MulOk z n ∧ Q (.str (Txt.mul z n)) H
theorem op_mulS : OpR X (binaryOp .Mult) rMulS := by
  rintro pins s σ H x y v u Q I rx ry ⟨z, n, rfl, rfl, ok, q⟩
  obtain ⟨t, rfl⟩ := rx
  obtain ⟨t2, rfl⟩ := ry
  exact SB.mul ok fun t' k => ⟨.str (Txt.mul z n), H, I.tok k, ⟨t', rfl⟩, q⟩
def rCount (K : PySem.W.Frag) : V → List V → Hp → VK → Prop := fun x xs H Q => ∃ (a : Addr) (ys : List V) (y : V), x = V.ref a ∧ xs = [y] ∧ SqL K H a ys ∧ flatV y = true ∧ ys.all flatV = true ∧ Q (.int (ys.countP fun z => eqV z y : Nat)) H
theorem countP_eqU {y : V} : ∀ {ys : List V} {us : List Value}, Vals ys us → ys.all flatV = true → us.countP (eqU y) = ys.countP fun z => eqV z y
  | _, _, .nil, _ => rfl
  | z :: _, u :: _, .cons r t, f => by
    rw [List.all_cons, Bool.and_eq_true] at f
    rw [List.countP_cons, List.countP_cons, countP_eqU t f.2, eqU_of r f.1]
theorem mt_countF : MtR X "list.count" (rCount X.K) := by
  rintro pins s σ H x xs v us Q I rx rxs ⟨a, ys, y, rfl, rfl, hs, fy, fys, q⟩
  cases rx
  obtain ⟨uy, rfl, ry⟩ := vals1 rxs
  obtain ⟨its, rv, ⟨⟨cls, dd, data, sl⟩, n, ho, hc, hdn, hd⟩, hlen⟩ := I.list hs
  simp only at hc hd
  subst hc hd
  refine call_meets PySem.F.slot_list_count ⟨_, ho, rfl⟩ PySem.F.entry_list_count (PySem.F.args_list_count_2 _ _) (SeqAt.list_countAt a its.toArray n dd sl uy (eqU y)) ⟨ho, fun u' hu' => mem_eqAt ry fy rv fys u' (by simpa using hu'), ?_⟩
  have ec : its.toArray.toList.countP (eqU y) = ys.countP fun z => eqV z y := countP_eqU rv fys
  rw [ec]
  exact ⟨.int (ys.countP fun z => eqV z y : Nat), H, I.tok _, ⟨_, rfl⟩, q⟩
abbrev Xc (K : PySem.W.Frag) (C : Addr) : Prop := PySem.W.excIn K C He.veBase "ValueError.__new__" = true ∧ PySem.W.keepIn K (.ref C) = true ∧ PySem.W.subIn K (.ref C) (.type "BaseException") = some true ∧ PySem.W.typeIn K (.ref C) = some (.type "type")
def tRaiseT (W : WX) (cls : Value) : TS := fun _ σ H => W cls none σ H
theorem ps_rs {W : WX} {x m : Str} {j : Nat} {p p2 pos pos2 : Pos} (hc : X.calm = true) (tk : Takes X W) (q : Xc X.K C)
    (gC : X.mg x = some (.ref C)) (hg : Gl X x := by rfl) (hdb : (x == ("__debug__" : Str)) = false := by decide) : PS X (.Raise (some (.Call (.Name x p) [.Constant (.str m) j p2] [] pos)) none pos2) (tRaiseT W (.ref C)) :=
  ps_raise hc tk (pmk_own PySem.F.excBase_ValueError q.1 gC q.2.1 (raises_own q.2.2.1 q.2.2.2) hg hdb)
def tTry (K : PySem.W.Frag) (c : Value) (i : Nat) (ts : Addr → Value → Option Addr → TS) (Wout : WX) (tb : WX → TS) : TS := fun D σ H => tb (wTrk K c i ts Wout D) D σ H
theorem ps_tryT {i : Nat} {n x : Str} {c : Value} {body suite : List Stmt} {b0 : Stmt} {np pos pos' : Pos} {tb : WX → TS} {ts : Addr → Value → Option Addr → TS} {Wout : WX} (hs : X.stack = X.env :: X.outer) (hf : X.env.frame = some X.env.locals) (hex : X.ex = []) (hN : X.N.Nodup) (hi : X.N[i]? = some n) (hln : X.env.kindOf n = some .local) (hc : Names X x c) (tk : Takes X Wout)
    (hb : ∀ (W : WX) (pn : List (Addr × Obj)) (xe : Value → Shared → Prop), Takes (X.tr pn xe) W → PassesOwn (model X.prog X.w) X.A X.env xe → PSs (X.tr pn xe) body (tb W))
    (hsu : ∀ (a : Addr) (oe : Obj) (cls : Value) (d : Option Addr) (pn : List (Addr × Obj)), Zc cls d oe → (∃ vs, oe.data = .fields vs) → PSs (X.suite a ((a, oe) :: pn)) (b0 :: suite) (ts a cls d)) :
    PS X (.Try body [.ExceptHandler (some (.Name x np)) (some n) (b0 :: suite) pos'] [] [] pos) (tTry X.K c i ts Wout tb) := ps_try_trk hs hf hex hN hi hln hc tk hb hsu
end
/-! ### texts as lists of codes -/
def tl (x : Str) : List Nat := x.cps.toList
def S (l : List Nat) : Str := ⟨l.toArray⟩
@[simp] theorem tl_S (l : List Nat) : tl (S l) = l := rfl
@[simp] theorem S_tl (x : Str) : S (tl x) = x := rfl
theorem str_ext {x y : Str} (h : tl x = tl y) : x = y := by rw [← S_tl x, ← S_tl y, h]
theorem str_eq_iff {x y : Str} : x = y ↔ tl x = tl y := ⟨fun h => by rw [h], str_ext⟩
theorem len_tl (x : Str) : x.length = (tl x).length := by show x.cps.size = x.cps.toList.length; simp
@[simp] theorem len_S (l : List Nat) : (S l).length = l.length := by rw [len_tl, tl_S]
@[simp] theorem tl_app (x y : Str) : tl (x ++ y) = tl x ++ tl y := by show (x.cps ++ y.cps).toList = _; rw [Array.toList_append]; rfl
@[simp] theorem len_app (x y : Str) : (x ++ y).length = x.length + y.length := by rw [len_tl, tl_app, List.length_append, ← len_tl, ← len_tl]
/-! ### one step of a reading -/
section
variable {σ : L2.St} {H : Hp} {Q : VK} {QB : Bool → Hp → Prop} {QA : List V → Hp → Prop} {QO : Option Int → Hp → Prop} {D : Ends} {i : Nat} {v x y z : V} {ta tb tc te tv to : TE} {tt tu : TT} {t1 t2 ts : TS} {tas : TA} {b : Bool} {K : PySem.W.Frag} {a C dx : Addr} {fs : List (Str × V)} {f : Str} {r r' : R2} {n m : Int} {p : Addr} {xs ys : List V} {s1 s2 : Str}
theorem z_var (h : σ[i]? = some (some v)) (q : Q v H) : tVar i σ H Q := ⟨v, h, q⟩
theorem z_c (q : Q v H) : tC v σ H Q := q
theorem z_op (q : ta σ H fun x H1 => tb σ H1 fun y H2 => r x y H2 Q) : tOp r ta tb σ H Q := q
theorem z_un {r : V → Hp → VK → Prop} (q : ta σ H fun x H1 => r x H1 Q) : tUn r ta σ H Q := q
theorem z_rU {g : Int → V} (q : Q (g n) H) : rU g (.int n) H Q := ⟨n, rfl, q⟩
theorem z_i0 {g : Int → Int → V} (q : Q (g n m) H) : rI0 g (.int n) (.int m) H Q := ⟨n, m, rfl, rfl, q⟩
theorem z_i {Cc : Int → Int → Prop} {g : Int → Int → V} (h : Cc n m) (q : Q (g n m) H) : rI Cc g (.int n) (.int m) H Q := ⟨n, m, rfl, rfl, h, q⟩
theorem z_eq (h : scal x y = true) (q : Q (.bl (decide (x = y))) H) : rEq x y H Q := ⟨h, q⟩
theorem z_ne (h : scal x y = true) (q : Q (.bl (!decide (x = y))) H) : rNe x y H Q := ⟨h, q⟩
theorem z_isN (q : Q (.bl (decide (x = .non))) H) : rIsNon x .non H Q := ⟨rfl, q⟩
theorem z_notN (q : Q (.bl (!decide (x = .non))) H) : rNotNon x .non H Q := ⟨rfl, q⟩
theorem z_addS (h : s1.length + s2.length ≤ sizeLine) (q : Q (.str (s1 ++ s2)) H) : rAddS (.str s1) (.str s2) H Q := ⟨s1, s2, rfl, rfl, h, q⟩
theorem z_mulS (h : MulOk s1 n) (q : Q (.str (Txt.mul s1 n)) H) : rMulS (.str s1) (.int n) H Q := ⟨s1, n, rfl, rfl, h, q⟩
theorem z_cat {l b : Addr} (h1 : H l = some (.lst xs)) (h2 : H b = some (.lst ys)) (h3 : xs.length + ys.length ≤ sizeLine) (q : ∀ p, H p = none → Q (.ref p) (upd H p (.lst (xs ++ ys)))) : rCat (.ref l) (.ref b) H Q := ⟨l, b, xs, ys, rfl, rfl, h1, h2, h3, q⟩
theorem z_get (q : ta σ H fun x H1 => ∃ a dx fs v, x = .ref a ∧ H1 a = some (.ins C dx fs) ∧ fs.lookup f = some v ∧ Q v H1) : tGet C ta f σ H Q := q
theorem z_get1 {c : V → Prop} (h : H a = some (.ins C dx fs)) (l : fs.lookup f = some v) (q : c v) : ∃ a' dx' fs' v', V.ref a = .ref a' ∧ H a' = some (.ins C dx' fs') ∧ fs'.lookup f = some v' ∧ c v' := ⟨a, dx, fs, v, rfl, h, l, q⟩
theorem z_put (q : tv σ H fun y H1 => ta σ H1 fun x H2 => ∃ a dx fs, x = .ref a ∧ H2 a = some (.ins C dx fs) ∧ fs.length < 1000 ∧ D.nx σ (upd H2 a (.ins C dx (putF f y fs)))) : tPut C ta tv f D σ H := q
theorem z_put1 {c : Addr → Addr → List (Str × V) → Prop} (h : H a = some (.ins C dx fs)) (l : fs.length < 1000) (q : c a dx fs) : ∃ a' dx' fs', V.ref a = .ref a' ∧ H a' = some (.ins C dx' fs') ∧ fs'.length < 1000 ∧ c a' dx' fs' := ⟨a, dx, fs, rfl, h, l, q⟩
theorem z_andV (q : ta σ H fun x H1 => ∃ c, x = .bl c ∧ if c = true then tb σ H1 Q else Q (.bl false) H1) : tAndV ta tb σ H Q := q
theorem z_orV (q : ta σ H fun x H1 => ∃ c, x = .bl c ∧ if c = true then Q (.bl true) H1 else tb σ H1 Q) : tOrV ta tb σ H Q := q
theorem z_bl {c : Bool → Prop} (q : c b) : ∃ c', V.bl b = .bl c' ∧ c c' := ⟨b, rfl, q⟩
theorem z_int {c : Int → Prop} (q : c n) : ∃ c', V.int n = .int c' ∧ c c' := ⟨n, rfl, q⟩
theorem z_chain (q : ta σ H fun x H1 => tb σ H1 fun y H2 => r x y H2 fun z H3 => ∃ k, z = .bl k ∧ (if k = true then tc σ H3 fun w' H4 => r' y w' H4 Q else Q (.bl false) H3)) : tChain r r' ta tb tc σ H Q := q
theorem z_test (q : ta σ H fun x H1 => ∃ k, x = .bl k ∧ QB k H1) : tTest ta σ H QB := q
theorem z_tB (q : ta σ H fun x H1 => ∃ k, x = .bl k ∧ QB k H1) : tB ta σ H QB := q
theorem z_and (q : tt σ H fun c H1 => if c = true then tu σ H1 QB else QB false H1) : tAnd tt tu σ H QB := q
theorem z_or (q : tt σ H fun c H1 => if c = true then QB true H1 else tu σ H1 QB) : tOr tt tu σ H QB := q
theorem z_not (q : tt σ H fun c H1 => QB (!c) H1) : tNot tt σ H QB := q
theorem z_tr (q : ta σ H fun x H1 => ∃ k, TruV K x H1 k ∧ QB k H1) : tTr K ta σ H QB := q
theorem z_truL {c : Bool → Prop} (h : SqL K H p xs) (q : c (!xs.isEmpty)) : ∃ k, TruV K (.ref p) H k ∧ c k := ⟨_, .inl ⟨xs, h, rfl⟩, q⟩
theorem z_if (q : tt σ H fun c H1 => if c = true then ta σ H1 Q else tb σ H1 Q) : tIf tt ta tb σ H Q := q
theorem z_nil (q : QA [] H) : tNil σ H QA := q
theorem z_cons (q : ta σ H fun x H1 => tas σ H1 fun xs H2 => QA (x :: xs) H2) : tCons ta tas σ H QA := q
theorem z_tup (q : tas σ H fun xs H1 => xs.length ≤ sizeLine ∧ ∀ p, H1 p = none → Q (.ref p) (upd H1 p (.tup xs))) : tTup tas σ H Q := q
theorem z_lst (q : tas σ H fun xs H1 => xs.length ≤ sizeLine ∧ ∀ p, H1 p = none → Q (.ref p) (upd H1 p (.lst xs))) : tLst tas σ H Q := q
theorem z_cb {rr : List V → Hp → VK → Prop} (q : tas σ H fun vs H1 => rr vs H1 Q) : tCB rr tas σ H Q := q
theorem z_lenS (h : s1.length ≤ sizeLine) (q : Q (.int s1.length) H) : rLn K [.str s1] H Q := ⟨.str s1, _, rfl, ⟨h, rfl⟩, q⟩
theorem z_lenL (h : SqL K H p xs) (q : Q (.int xs.length) H) : rLn K [.ref p] H Q := ⟨.ref p, _, rfl, .inl ⟨xs, h, rfl⟩, q⟩
theorem z_lenT (h : SqT K H p xs) (q : Q (.int xs.length) H) : rLn K [.ref p] H Q := ⟨.ref p, _, rfl, .inr ⟨xs, h, rfl⟩, q⟩
theorem z_ord (h : s1.length = 1) (q : Q (.int (s1.cps.getD 0 0 : Nat)) H) : rOrd [.str s1] H Q := ⟨s1, rfl, h, q⟩
theorem z_min (q : Q (.int (if m < n then m else n)) H) : rMin2 [.int n, .int m] H Q := ⟨n, m, rfl, q⟩
theorem z_max (q : Q (.int (if m > n then m else n)) H) : rMax2 [.int n, .int m] H Q := ⟨n, m, rfl, q⟩
theorem z_lo (h : SqL K H p xs) (q : ∀ l, H l = none → Q (.ref l) (upd H l (.lst xs))) : rLstOf K [.ref p] H Q := ⟨p, xs, rfl, .inl h, q⟩
theorem z_si (h : n.natAbs.log2 < 1920) (q : Q (.str (toString n)) H) : rStrI [.int n] H Q := ⟨n, rfl, h, q⟩
theorem z_call {sp : Sp} {E : L2.St → XK} (q : tas σ H fun vs H1 => sp vs H1 Q (E σ)) : tCallS sp E tas σ H Q := q
theorem z_mt {sp : Sp} {E : L2.St → XK} (q : ta σ H fun x H1 => ∃ a dx fs, x = .ref a ∧ H1 a = some (.ins C dx fs) ∧ fs.lookup f = none ∧ tas σ H1 fun vs H2 => sp (x :: vs) H2 Q (E σ)) : tMt C f sp E ta tas σ H Q := q
theorem z_mt1 {c : Prop} (h : H a = some (.ins C dx fs)) (l : fs.lookup f = none) (q : c) : ∃ a' dx' fs', V.ref a = .ref a' ∧ H a' = some (.ins C dx' fs') ∧ fs'.lookup f = none ∧ c := ⟨a, dx, fs, rfl, h, l, q⟩
theorem z_mk {sp : Sp} {E : L2.St → XK} (q : tas σ H fun vs H1 => ∀ x dx, H1 x = none → H1 dx = none → dx ≠ x → sp (.ref x :: vs) (upd (upd H1 dx (.own x)) x (.ins C dx [])) (fun v H2 => v = .non ∧ Q (.ref x) H2) (E σ)) : tMk C sp E tas σ H Q := q
theorem z_sl {rs : V → Option Int → Option Int → Hp → VK → Prop} {tl th : TO} (q : te σ H fun x H1 => tl σ H1 fun l H2 => th σ H2 fun u H3 => rs x l u H3 Q) : tSl rs te tl th σ H Q := q
theorem z_nop (q : QO none H) : tNoPart σ H QO := q
theorem z_part (q : te σ H fun x H1 => ∃ i, x = .int i ∧ QO (some i) H1) : tPart te σ H QO := q
theorem z_slL {lo hi : Option Int} (h : SqL K H p xs) (q : ∀ l, H l = none → Q (.ref l) (upd H l (.lst (cutV xs lo hi)))) : rSlL K (.ref p) lo hi H Q := ⟨p, xs, rfl, h, q⟩
theorem z_slS {lo hi : Option Int} (h : s1.length ≤ sizeLine) (q : Q (.str (cutS s1 lo hi)) H) : rSlS (.str s1) lo hi H Q := ⟨s1, rfl, h, q⟩
theorem z_ixL (h : SqL K H p xs) (e : atI xs n = some v) (q : Q v H) : rIxL K (.ref p) (.int n) H Q := ⟨p, xs, n, v, rfl, rfl, h, e, q⟩
theorem z_ixT (h : SqT K H p xs) (e : atI xs n = some v) (q : Q v H) : rIxT K (.ref p) (.int n) H Q := ⟨p, xs, n, v, rfl, rfl, h, e, q⟩
theorem z_ixS {c : Nat} (h : s1.length ≤ sizeLine) (e : atI s1.cps.toList n = some c) (q : Q (.str ⟨#[c]⟩) H) : rIxS (.str s1) (.int n) H Q := ⟨s1, n, c, rfl, rfl, h, e, q⟩
theorem z_bm {T : String} {rm : V → List V → Hp → VK → Prop} (q : to σ H fun x H1 => tyV K T x H1 ∧ tas σ H1 fun xs H2 => rm x xs H2 Q) : tBM K T rm to tas σ H Q := q
theorem z_bm0 {T : String} {rm : V → List V → Hp → VK → Prop} (q : to σ H fun x H1 => tyV K T x H1 ∧ rm x [] H1 Q) : tBM0 K T rm to σ H Q := q
theorem z_tyL {c : Prop} (h : SqL K H p xs) (q : c) : tyV K "list" (.ref p) H ∧ c := ⟨.inl ⟨rfl, xs, h⟩, q⟩
theorem z_tyS {c : Prop} (q : c) : tyV K "str" (.str s1) H ∧ c := ⟨rfl, q⟩
theorem z_app (h : H p = some (.lst xs)) (l : xs.length < sizeLine) (q : Q .non (upd H p (.lst (xs ++ [y])))) : rAppend (.ref p) [y] H Q := ⟨p, xs, y, rfl, rfl, h, l, q⟩
theorem z_pop (h : H p = some (.lst xs)) (e : xs[xs.length - 1]? = some y) (q : Q y (upd H p (.lst xs.dropLast))) : rPop (.ref p) [] H Q := ⟨p, xs, y, rfl, rfl, h, e, q⟩
theorem z_seq (q : t1 { D with nx := t2 D } σ H) : tSeq t1 t2 D σ H := q
theorem z_next (q : D.nx σ H) : tNext D σ H := q
theorem z_drop (q : te σ H fun _ H1 => D.nx σ H1) : tDrop te D σ H := q
theorem z_ret (q : te σ H D.rt) : tRet te D σ H := q
theorem z_retN (q : D.rt .non H) : tRetN D σ H := q
theorem z_ifS {c : TT} (q : c σ H fun b H1 => if b = true then t1 D σ H1 else t2 D σ H1) : tIfS c t1 t2 D σ H := q
theorem z_asg {g : TG} (q : te σ H fun x H1 => g x σ H1 D.nx) : tAsg te g D σ H := q
theorem z_gname {c : L2.St → Hp → Prop} (q : c (σ.set i (some v)) H) : gName i v σ H c := q
theorem z_gsub {tset : TSet} {c : L2.St → Hp → Prop} (q : to σ H fun o H1 => ta σ H1 fun i H2 => tset o i v H2 fun H3 => c σ H3) : gSub to ta tset v σ H c := q
theorem z_setL {c : Hp → Prop} {j : Nat} (h : H p = some (.lst xs)) (e : ixN xs.length n = some j) (q : c (upd H p (.lst (xs.set j v)))) : rSetL (.ref p) (.int n) v H c := ⟨p, xs, n, j, rfl, rfl, h, e, q⟩
theorem z_raise {W : WX} {cls : Value} (q : W cls none σ H) : tRaiseT W cls D σ H := q
theorem z_try {c : Value} {ts : Addr → Value → Option Addr → TS} {Wout : WX} {tbd : WX → TS} (q : tbd (wTrk K c i ts Wout D) D σ H) : tTry K c i ts Wout tbd D σ H := q
theorem z_imp {n : Nat} {c : Prop} (h : n ≤ sizeLine) (q : c) : n ≤ sizeLine ∧ c := ⟨h, q⟩
theorem z_wtrk {c cls : Value} {ts : Addr → Value → Option Addr → TS} {Wout : WX} (h : PySem.W.exmOne K cls c = some true) (q : ∀ a, H a = none → ts a cls none { nx := fun σ' H' => H' a = none → D.nx (σ'.set i none) (upd H' a (XO cls none a)), rt := fun v H' => H' a = none → D.rt v (upd H' a (XO cls none a)), bk := fun σ' H' => H' a = none → D.bk (σ'.set i none) (upd H' a (XO cls none a)), ct := fun σ' H' => H' a = none → D.ct (σ'.set i none) (upd H' a (XO cls none a)) } (σ.set i (some (.ref a))) H) : wTrk K c i ts Wout D cls none σ H := ⟨true, h, fun _ a ha => q a ha, fun z => nomatch z⟩
theorem z_ifT {b : Bool} {A B : Prop} (h : b = true) (q : A) : if b = true then A else B := by rw [h]; exact iteT q
theorem z_ifF {b : Bool} {A B : Prop} (h : b = false) (q : B) : if b = true then A else B := by rw [h]; exact iteF q
theorem ite_b {b : Bool} {A B : Prop} (h1 : b = true → A) (h2 : b = false → B) : if b = true then A else B := by
  cases b with
  | true => exact iteT (h1 rfl)
  | false => exact iteF (h2 rfl)
end
/-! ### heaps -/
theorem un_fresh {H : Hp} {q p : Addr} {o : HO} (h : upd H q o p = none) : p ≠ q ∧ H p = none := by
  by_cases e : p = q
  · subst e; rw [upd_same] at h; cases h
  · rw [upd_ne e] at h; exact ⟨e, h⟩

/-! ### comprehensions -/
section
variable {σ : L2.St} {H H1 : Hp} {Q : VK} {g : TG} {tt : TT} {te ta : TE} {vs : List Nat} {D : Addr} {Qd : Hp → Prop} {K : PySem.W.Frag}
/-- what a comprehension asks behind what it walks: the new list at D -/
def LcGo (J : It) (g : TG) (tt : TT) (te : TE) (vs : List Nat) (σ : L2.St) (D : Addr) (H1 : Hp) (Qd : Hp → Prop) : Prop := ∃ W : Nat → Nat → Hp → Prop, (∃ m, W 0 m (upd H1 D (.lst []))) ∧ ∀ i m H, W i m H →
  (J.stop i H ∧ Qd H) ∨ (J.go i H ∧ ∃ Nx : Hp → Prop, (∀ H', Nx H' → ∃ m', m' < m ∧ W (i + 1) m' H') ∧ ∀ x H', J.yld i H x H' → g x (wipe σ vs) H' fun σ2 H2 => wipe σ2 vs = wipe σ vs ∧ tt σ2 H2 fun b H3 =>
    if b = true then te σ2 H3 fun y H4 => ∃ acc, H4 D = some (.lst acc) ∧ acc.length < sizeLine ∧ Nx (upd H4 D (.lst (acc ++ [y]))) else Nx H3)
theorem z_yes {QB : Bool → Hp → Prop} (q : QB true H) : tYes σ H QB := q
theorem z_lc {wi : TI} (q : wi σ H fun J H1 => ∀ D, H1 D = none → LcGo J g tt te vs σ D H1 fun H2 => Q (.ref D) H2) : tLc wi g tt te vs σ H Q := q
theorem z_iStr {R : It → Hp → Prop} (q : ta σ H fun v H1 => ∃ x, v = .str x ∧ R (Its x) H1) : iStr ta σ H R := q
theorem z_iLst {R : It → Hp → Prop} (q : ta σ H fun v H1 => ∃ a, v = .ref a ∧ (∃ xs, SqL K H1 a xs) ∧ R (Itl K a) H1) : iList K ta σ H R := q
theorem z_iTup {R : It → Hp → Prop} (q : ta σ H fun v H1 => ∃ a, v = .ref a ∧ (∃ xs, SqT K H1 a xs) ∧ R (Itt K a) H1) : iTup K ta σ H R := q
theorem z_str {c : Str → Prop} {x : Str} (q : c x) : ∃ x', V.str x = .str x' ∧ c x' := ⟨x, rfl, q⟩
theorem z_sqL {c : Addr → Prop} {a : Addr} {xs : List V} (h : SqL K H a xs) (q : c a) : ∃ a', V.ref a = .ref a' ∧ (∃ xs, SqL K H a' xs) ∧ c a' := ⟨a, rfl, ⟨xs, h⟩, q⟩
theorem z_sqT {c : Addr → Prop} {a : Addr} {xs : List V} (h : SqT K H a xs) (q : c a) : ∃ a', V.ref a = .ref a' ∧ (∃ xs, SqT K H a' xs) ∧ c a' := ⟨a, rfl, ⟨xs, h⟩, q⟩
theorem lc_str {x : Str} (Pv : Nat → Hp → Prop) (h0 : Pv 0 (upd H1 D (.lst []))) (hs : ∀ i c H, x.cps[i]? = some c → Pv i H → g (.str ⟨#[c]⟩) (wipe σ vs) H fun σ2 H2 => wipe σ2 vs = wipe σ vs ∧ tt σ2 H2 fun b H3 =>
    if b = true then te σ2 H3 fun y H4 => ∃ acc, H4 D = some (.lst acc) ∧ acc.length < sizeLine ∧ Pv (i + 1) (upd H4 D (.lst (acc ++ [y]))) else Pv (i + 1) H3) (hd : ∀ H, Pv x.cps.size H → Qd H) : LcGo (Its x) g tt te vs σ D H1 Qd := by
  refine ⟨fun i m H => Pv i H ∧ i + m = x.cps.size, ⟨_, h0, Nat.zero_add _⟩, fun i m H ⟨p, e⟩ => ?_⟩
  by_cases hi : i < x.cps.size
  · refine .inr ⟨hi, Pv (i + 1), fun H' p' => ⟨m - 1, by omega, p', by omega⟩, ?_⟩
    rintro v H' ⟨rfl, c, hc, rfl⟩
    exact hs i c _ hc p
  · have ei : i = x.cps.size := by omega
    subst ei
    exact .inl ⟨Nat.le_refl _, hd H p⟩
/-- a comprehension over a text, each item a value that leaves the heap as it is -/
theorem lc_strP {x : Str} {j : Nat} (f : Nat → V) (hl : x.length < sizeLine) (hw : ∀ v, wipe ((wipe σ vs).set j (some v)) vs = wipe σ vs) (hn : H1 D = none)
    (he : ∀ (c : Nat) (H2 : Hp) (Q2 : VK), Same H1 H2 → Q2 (f c) H2 → te ((wipe σ vs).set j (some (.str ⟨#[c]⟩))) H2 Q2) (hd : Qd (upd H1 D (.lst ((tl x).map f)))) : LcGo (Its x) (gName j) tYes te vs σ D H1 Qd := by
  refine lc_str (fun i H2 => H2 = upd H1 D (.lst (((tl x).take i).map f))) (by simp) ?_ ?_
  · rintro i c H2 hc rfl
    refine ⟨hw _, z_yes (iteT ?_)⟩
    have hc' : (tl x)[i]? = some c := by unfold tl; rw [Array.getElem?_toList]; exact hc
    refine he c _ _ (fun b o e => by rw [upd_ne (ne_of_none e hn)]; exact e) ⟨_, upd_same, ?_, ?_⟩
    · rw [len_tl] at hl; simp; omega
    · rw [upd_upd, List.take_succ, hc']; simp
  · rintro H2 rfl
    rw [List.take_of_length_le (by unfold tl; simp)]
    exact hd
end
/-! ### all(..) of a list of truths -/
theorem z_all {H : Hp} {Q : VK} {K : PySem.W.Frag} {a : Addr} (bs : List Bool) (h : SqL K H a (bs.map V.bl)) (q : Q (.bl (bs.all id)) H) : rAll K [.ref a] H Q := ⟨a, bs, rfl, h, q⟩

/-! ### slices -/
def cutL {α : Type} (xs : List α) (lo hi : Option Int) : List α := (xs.drop (HT.sIx xs.length 0 lo)).take (HT.sIx xs.length xs.length hi - HT.sIx xs.length 0 lo)
theorem cutV_eq (xs : List V) (lo hi : Option Int) : cutV xs lo hi = cutL xs lo hi := rfl
theorem cutL_map {α β : Type} (f : α → β) (xs : List α) (lo hi : Option Int) : cutL (xs.map f) lo hi = (cutL xs lo hi).map f := by
  unfold cutL; rw [List.length_map, List.map_take, List.map_drop]
theorem cutS_eq (z : Str) (lo hi : Option Int) : cutS z lo hi = S (cutL (tl z) lo hi) := by
  unfold cutS cutL S tl; rw [len_tl]; rfl
theorem sIx_pos {n d : Nat} {k : Int} (h : 0 ≤ k) : HT.sIx n d (some k) = min k.toNat n := if_neg (by omega)
theorem sIx_neg {n d : Nat} {k : Int} (h : k < 0) : HT.sIx n d (some k) = (k + (n : Int)).toNat := if_pos h
section
variable {α : Type} (xs : List α)
theorem cutL_to {k : Int} (h : 0 ≤ k) : cutL xs none (some k) = xs.take k.toNat := by
  unfold cutL; rw [sIx_pos h, HT.sIx_none, List.drop_zero, Nat.sub_zero]
  by_cases e : k.toNat ≤ xs.length
  · rw [Nat.min_eq_left e]
  · rw [Nat.min_eq_right (by omega), List.take_length, List.take_of_length_le (by omega)]
theorem cutL_from {k : Int} (h : 0 ≤ k) : cutL xs (some k) none = xs.drop k.toNat := by
  unfold cutL; rw [sIx_pos h, HT.sIx_none]
  by_cases e : k.toNat ≤ xs.length
  · rw [Nat.min_eq_left e, List.take_of_length_le (by rw [List.length_drop]; omega)]
  · rw [Nat.min_eq_right (by omega), List.drop_length, List.drop_of_length_le (by omega)]; simp
theorem cutL_mid {a b : Int} (ha : 0 ≤ a) (hb : 0 ≤ b) : cutL xs (some a) (some b) = (xs.drop a.toNat).take (b.toNat - a.toNat) := by
  unfold cutL; rw [sIx_pos ha, sIx_pos hb]
  by_cases e : a.toNat ≤ xs.length
  · rw [Nat.min_eq_left e]
    by_cases e2 : b.toNat ≤ xs.length
    · rw [Nat.min_eq_left e2]
    · rw [Nat.min_eq_right (by omega), List.take_of_length_le (by rw [List.length_drop]; omega), List.take_of_length_le (by rw [List.length_drop]; omega)]
  · have e1 : min a.toNat xs.length = xs.length := by omega
    rw [e1, List.drop_length, List.drop_of_length_le (by omega)]; simp
theorem cutL_lastOff : cutL xs none (some (-1)) = xs.dropLast := by
  unfold cutL; rw [sIx_neg (by decide), HT.sIx_none, List.drop_zero, Nat.sub_zero, List.dropLast_eq_take]
  congr 1; omega
theorem cutL_lastN {k : Int} (h : 0 < k) : cutL xs (some (-k)) none = xs.drop (xs.length - k.toNat) := by
  unfold cutL; rw [sIx_neg (by omega), HT.sIx_none, List.take_of_length_le (by rw [List.length_drop]; omega)]
  congr 1; omega
end
/-! ### what stays -/
/-- all that was tracked is as it was, but at the addresses S -/
def Fr (S : List Addr) (H H' : Hp) : Prop := ∀ b o, H b = some o → b ∉ S → H' b = some o
theorem Fr.refl {S : List Addr} {H : Hp} : Fr S H H := fun _ _ e _ => e
theorem Fr.same {S : List Addr} {H H' : Hp} (h : Same H H') : Fr S H H' := fun b o e _ => h b o e
theorem Fr.trans {S : List Addr} {H H1 H2 : Hp} (h1 : Fr S H H1) (h2 : Fr S H1 H2) : Fr S H H2 := fun b o e n => h2 b o (h1 b o e n) n
theorem Fr.upd {S : List Addr} {H H' : Hp} {a : Addr} {o : HO} (h : Fr S H H') (ha : a ∈ S) : Fr S H (upd H' a o) := fun b u e n => by
  rw [upd_ne (fun z : b = a => n (by rw [z]; exact ha))]; exact h b u e n
theorem Fr.new {S : List Addr} {H H' : Hp} {a : Addr} {o : HO} (h : Fr S H H') (ha : H' a = none) : Fr S H (L2.upd H' a o) := fun b u e n => by
  rw [upd_ne (ne_of_none (h b u e n) ha)]; exact h b u e n
/-- an object that H does not know may change -/
theorem Fr.own {S : List Addr} {H H' : Hp} {a : Addr} {o : HO} (h : Fr S H H') (ha : H a = none) : Fr S H (L2.upd H' a o) := fun b u e n => by
  rw [upd_ne (ne_of_none e ha)]; exact h b u e n
theorem Fr.mono {S T : List Addr} {H H' : Hp} (h : Fr S H H') (st : ∀ a ∈ S, a ∈ T) : Fr T H H' := fun b o e n => h b o e fun z => n (st b z)
theorem Fr.to {S : List Addr} {H H' : Hp} (h : Fr S H H') {b : Addr} {o : HO} (e : H b = some o) (n : b ∉ S) : H' b = some o := h b o e n
/-- changes at addresses that are new to H are no changes of it -/
theorem Fr.drop {S : List Addr} {H H1 H2 : Hp} (h1 : Same H H1) (h2 : Fr S H1 H2) (n : ∀ a ∈ S, H a = none) : Same H H2 := fun b o e => h2 b o (h1 b o e) fun z => by
  rw [n b z] at e; cases e
theorem Same.fr {H H' : Hp} (h : Fr [] H H') : Same H H' := fun b o e => h b o e (by simp)
theorem Same.new {H H' : Hp} {a : Addr} {o : HO} (h : Same H H') (ha : H' a = none) : Same H (upd H' a o) := fun b u e => by
  rw [upd_ne (ne_of_none (h b u e) ha)]; exact h b u e
theorem Same.own {H H' : Hp} {a : Addr} {o : HO} (h : Same H H') (ha : H a = none) : Same H (upd H' a o) := fun b u e => by
  rw [upd_ne (ne_of_none e ha)]; exact h b u e
theorem fresh_of {H H' : Hp} (h : Same H H') {a : Addr} (e : H' a = none) : H a = none := Same.free h e
theorem not_mem1 {a b : Addr} (h : b ≠ a) : b ∉ [a] := by simp [h]
theorem not_mem2 {a c b : Addr} (h : b ≠ a) (h2 : b ≠ c) : b ∉ [a, c] := by simp [h, h2]
theorem fl_of {fs : List (Str × V)} (h : Nat.blt fs.length 1000 = true) : fs.length < 1000 := Nat.blt_eq.mp h
/-! ### the script; things that may change -/
def Mu (H : Hp) (b : Addr) : Prop := ∀ o u, H b ≠ some (.frz o u)
theorem Mu.lst {H : Hp} {b : Addr} {xs : List V} (h : H b = some (.lst xs)) : Mu H b := fun o u e => by rw [h] at e; cases e
theorem Mu.ins {H : Hp} {b C dx : Addr} {fs : List (Str × V)} (h : H b = some (.ins C dx fs)) : Mu H b := fun o u e => by rw [h] at e; cases e
theorem Mu.dK {H : Hp} {b : Addr} {xs : List (Key × V)} (h : H b = some (.dK xs)) : Mu H b := fun o u e => by rw [h] at e; cases e
theorem Mu.non {H : Hp} {b : Addr} (h : H b = none) : Mu H b := fun o u e => by rw [h] at e; cases e
/-- the script: a list of at most 63 ints, read only -/
def Scr (K : PySem.W.Frag) (H : Hp) (a : Addr) (ns : List Int) : Prop := ns.length ≤ 63 ∧ ((∃ o, H a = some (.frz o (.lst (ns.map V.int)))) ∨ SqL K (fun _ => none) a (ns.map V.int))
theorem Scr.sq {K : PySem.W.Frag} {H : Hp} {a : Addr} {ns : List Int} (s : Scr K H a ns) : SqL K H a (ns.map V.int) := by
  rcases s.2 with ⟨o, h⟩ | (h | ⟨o, h⟩) | h
  · exact .inl (.inr ⟨o, h⟩)
  · cases h
  · cases h
  · exact .inr h
theorem Scr.fr {K : PySem.W.Frag} {H H' : Hp} {a : Addr} {ns : List Int} {S : List Addr} (s : Scr K H a ns) (f : Fr S H H') (hS : ∀ b ∈ S, Mu H b) : Scr K H' a ns := by
  refine ⟨s.1, ?_⟩
  rcases s.2 with ⟨o, h⟩ | h
  · exact .inl ⟨o, f a _ h fun z => hS a z _ _ h⟩
  · exact .inr h
theorem Scr.same {K : PySem.W.Frag} {H H' : Hp} {a : Addr} {ns : List Int} (s : Scr K H a ns) (f : Same H H') : Scr K H' a ns := s.fr (S := []) (Fr.same f) (by simp)
theorem Scr.upd {K : PySem.W.Frag} {H : Hp} {a t : Addr} {o : HO} {ns : List Int} (s : Scr K H a ns) (h : Mu H t) : Scr K (L2.upd H t o) a ns := s.fr (S := [t]) (Fr.upd Fr.refl (by simp)) (by simpa using h)
theorem Scr.of {K : PySem.W.Frag} {H : Hp} {a : Addr} {ns : List Int} (hl : ns.length ≤ 63) (ho : Only H) (h : SqL K H a (ns.map V.int)) : Scr K H a ns := by
  refine ⟨hl, ?_⟩
  rcases h with (h | ⟨o, h⟩) | h
  · rcases ho a with z | ⟨o, xs, z⟩
    · rw [z] at h; cases h
    · rw [z] at h; cases h
  · exact .inl ⟨o, h⟩
  · exact .inr (.inr h)
theorem z_isX {H : Hp} {Q : VK} {K : PySem.W.Frag} {a D : Addr} {c : V} {cv : Value} {b : Bool} (h : H a = some (XO (.ref D) none a)) (hD : ExcC K D) (hc : ClsV c cv) (hk : PySem.W.kitOne K (.ref D) cv = some b) (q : Q (.bl b) H) : rIsX K [.ref a, c] H Q := ⟨a, D, c, cv, b, rfl, h, hD, hc, hk, q⟩
theorem z_count {H : Hp} {Q : VK} {K : PySem.W.Frag} {a : Addr} {ys : List V} {y : V} (h : SqL K H a ys) (fy : flatV y = true) (fys : ys.all flatV = true) (q : Q (.int (ys.countP fun z => eqV z y : Nat)) H) : rCount K (.ref a) [y] H Q := ⟨a, ys, y, rfl, rfl, h, fy, fys, q⟩
theorem z_index {H : Hp} {Q : VK} {K : PySem.W.Frag} {a : Addr} {ys : List V} {y z : V} (j : Nat) (h : SqL K H a ys) (fy : flatV y = true) (fys : ys.all flatV = true) (e : ys[j]? = some z) (ez : eqV z y = true) (hn : ∀ (m : Nat) (z' : V), m < j → ys[m]? = some z' → eqV z' y = false) (q : Q (.int (j : Nat)) H) : rIndex K (.ref a) [y] H Q := ⟨a, ys, y, j, z, rfl, rfl, h, fy, fys, e, ez, hn, q⟩
/-! ### rings -/
def ringF (m : Int) (l : Addr) (s : Int) : List (Str × V) := [("most", .int m), ("texts", .ref l), ("spot", .int s)]
structure RingAt (K : PySem.W.Frag) (H : Hp) (p l : Addr) (m : Int) (ts : List Str) (s : Int) : Prop where
  ob : ∃ dx, H p = some (.ins (He.ga K "Ring") dx (ringF m l s))
  ls : H l = some (.lst (ts.map V.str))
theorem RingAt.same {K : PySem.W.Frag} {H H' : Hp} {p l : Addr} {m : Int} {ts : List Str} {s : Int} (R : RingAt K H p l m ts s) (h : Same H H') : RingAt K H' p l m ts s :=
  ⟨let ⟨dx, e⟩ := R.ob; ⟨dx, h _ _ e⟩, h _ _ R.ls⟩
def pushR (m : Int) (x : Str) (ts : List Str) : List Str := if x = "" then ts else (x :: ts).take m.toNat
def joinR (m : Int) (x : Str) (ahead : Bool) (ts : List Str) : List Str := match ts with
  | [] => pushR m x []
  | t :: r => (if ahead then x ++ t else t ++ x) :: r

/-! ### loops -/
section
variable {σ : L2.St} {H : Hp} {D : Ends} {g : TG} {tb : TS} {ta : TA} {te : TE} {R : It → Hp → Prop} {K : PySem.W.Frag}
def ForGo (J : It) (g : TG) (tb : TS) (D : Ends) (σ : L2.St) (H1 : Hp) : Prop := ∃ W : Nat → Nat → L2.St → Hp → Prop, (∃ m, W 0 m σ H1) ∧ ∀ i m σ H, W i m σ H →
  (J.stop i H ∧ D.nx σ H) ∨ (J.go i H ∧ ∃ N : L2.St → Hp → Prop, (∀ σ' H', N σ' H' → ∃ m', m' < m ∧ W (i + 1) m' σ' H') ∧ ∀ x H', J.yld i H x H' → g x σ H' fun σ2 H2 => tb { D with nx := N, ct := N, bk := D.nx } σ2 H2)
theorem z_for {wi : TI} (q : wi σ H fun J H1 => ForGo J g tb D σ H1) : tFor wi g tb D σ H := q
theorem z_rng1 (q : ta σ H fun vs H1 => ∃ j : Int, vs = [.int j] ∧ -(2 ^ 62) ≤ j ∧ j < 2 ^ 62 ∧ R (Itr 0 j.toNat) H1) : iRng1 ta σ H R := q
theorem z_rng1e {n : Int} {c : Int → Prop} (h1 : -(2 ^ 62) ≤ n) (h2 : n < 2 ^ 62) (q : c n) : ∃ j : Int, [V.int n] = [.int j] ∧ -(2 ^ 62) ≤ j ∧ j < 2 ^ 62 ∧ c j := ⟨n, rfl, h1, h2, q⟩
theorem z_rng2 (q : ta σ H fun vs H1 => ∃ i j : Int, vs = [.int i, .int j] ∧ (-(2 ^ 62) ≤ i ∧ i < 2 ^ 62 ∧ -(2 ^ 62) ≤ j ∧ j < 2 ^ 62) ∧ R (Itr i (j - i).toNat) H1) : iRng2 ta σ H R := q
theorem z_rng2e {n m : Int} {c : Int → Int → Prop} (h : -(2 ^ 62) ≤ n ∧ n < 2 ^ 62 ∧ -(2 ^ 62) ≤ m ∧ m < 2 ^ 62) (q : c n m) : ∃ i j : Int, [V.int n, V.int m] = [.int i, .int j] ∧ (-(2 ^ 62) ≤ i ∧ i < 2 ^ 62 ∧ -(2 ^ 62) ≤ j ∧ j < 2 ^ 62) ∧ c i j := ⟨n, m, rfl, h, q⟩
theorem fg_range {lo : Int} {n : Nat} (Pv : Nat → L2.St → Hp → Prop) (h0 : Pv 0 σ H) (hs : ∀ i σ H, i < n → Pv i σ H → g (.int (lo + i)) σ H fun σ2 H2 => tb { D with nx := Pv (i + 1), ct := Pv (i + 1), bk := D.nx } σ2 H2) (hd : ∀ σ H, Pv n σ H → D.nx σ H) : ForGo (Itr lo n) g tb D σ H := for_range Pv h0 hs hd
theorem fg_list {a : Addr} {xs : List V} (Pv : Nat → L2.St → Hp → Prop) (h0 : Pv 0 σ H) (hl : ∀ i σ H, i ≤ xs.length → Pv i σ H → SqL K H a xs) (hs : ∀ i x σ H, xs[i]? = some x → Pv i σ H → g x σ H fun σ2 H2 => tb { D with nx := Pv (i + 1), ct := Pv (i + 1), bk := D.nx } σ2 H2) (hd : ∀ σ H, Pv xs.length σ H → D.nx σ H) : ForGo (Itl K a) g tb D σ H := for_list Pv h0 hl hs hd
theorem fg_tup {a : Addr} {xs : List V} (Pv : Nat → L2.St → Hp → Prop) (h0 : Pv 0 σ H) (hl : ∀ i σ H, i ≤ xs.length → Pv i σ H → SqT K H a xs) (hs : ∀ i x σ H, xs[i]? = some x → Pv i σ H → g x σ H fun σ2 H2 => tb { D with nx := Pv (i + 1), ct := Pv (i + 1), bk := D.nx } σ2 H2) (hd : ∀ σ H, Pv xs.length σ H → D.nx σ H) : ForGo (Itt K a) g tb D σ H := for_tup Pv h0 hl hs hd
theorem lg_range {lo : Int} {n : Nat} {tt : TT} {vs : List Nat} {D : Addr} {Qd : Hp → Prop} (Pv : Nat → Hp → Prop) (h0 : Pv 0 (upd H D (.lst []))) (hs : ∀ i H, i < n → Pv i H → g (.int (lo + i)) (wipe σ vs) H fun σ2 H2 => wipe σ2 vs = wipe σ vs ∧ tt σ2 H2 fun b H3 => if b = true then te σ2 H3 fun y H4 => ∃ acc, H4 D = some (.lst acc) ∧ acc.length < sizeLine ∧ Pv (i + 1) (upd H4 D (.lst (acc ++ [y]))) else Pv (i + 1) H3) (hd : ∀ H, Pv n H → Qd H) : LcGo (Itr lo n) g tt te vs σ D H Qd := lc_range Pv h0 hs hd
theorem lg_list {a : Addr} {xs : List V} {tt : TT} {vs : List Nat} {D : Addr} {Qd : Hp → Prop} (Pv : Nat → Hp → Prop) (h0 : Pv 0 (upd H D (.lst []))) (hl : ∀ i H, i ≤ xs.length → Pv i H → SqL K H a xs) (hs : ∀ i x H, xs[i]? = some x → Pv i H → g x (wipe σ vs) H fun σ2 H2 => wipe σ2 vs = wipe σ vs ∧ tt σ2 H2 fun b H3 => if b = true then te σ2 H3 fun y H4 => ∃ acc, H4 D = some (.lst acc) ∧ acc.length < sizeLine ∧ Pv (i + 1) (upd H4 D (.lst (acc ++ [y]))) else Pv (i + 1) H3) (hd : ∀ H, Pv xs.length H → Qd H) : LcGo (Itl K a) g tt te vs σ D H Qd := lc_list Pv h0 hl hs hd
theorem lg_tup {a : Addr} {xs : List V} {tt : TT} {vs : List Nat} {D : Addr} {Qd : Hp → Prop} (Pv : Nat → Hp → Prop) (h0 : Pv 0 (upd H D (.lst []))) (hl : ∀ i H, i ≤ xs.length → Pv i H → SqT K H a xs) (hs : ∀ i x H, xs[i]? = some x → Pv i H → g x (wipe σ vs) H fun σ2 H2 => wipe σ2 vs = wipe σ vs ∧ tt σ2 H2 fun b H3 => if b = true then te σ2 H3 fun y H4 => ∃ acc, H4 D = some (.lst acc) ∧ acc.length < sizeLine ∧ Pv (i + 1) (upd H4 D (.lst (acc ++ [y]))) else Pv (i + 1) H3) (hd : ∀ H, Pv xs.length H → Qd H) : LcGo (Itt K a) g tt te vs σ D H Qd := lc_tup Pv h0 hl hs hd
/-- while: an invariant and a measure -/
theorem z_while {c : TT} (Pv : Nat → L2.St → Hp → Prop) (m0 : Nat) (h0 : Pv m0 σ H) (hs : ∀ m σ H, Pv m σ H → c σ H fun b H1 => if b = true then ∃ N : L2.St → Hp → Prop, (∀ σ' H', N σ' H' → ∃ m', m' < m ∧ Pv m' σ' H') ∧ tb { D with nx := N, ct := N, bk := D.nx } σ H1 else D.nx σ H1) : tWhile c tb D σ H := ⟨Pv, ⟨m0, h0⟩, hs⟩
theorem z_turn {m : Nat} {Pv : Nat → L2.St → Hp → Prop} (q : tb { D with nx := fun σ' H' => ∃ m', m' < m ∧ Pv m' σ' H', ct := fun σ' H' => ∃ m', m' < m ∧ Pv m' σ' H', bk := D.nx } σ H) : ∃ N : L2.St → Hp → Prop, (∀ σ' H', N σ' H' → ∃ m', m' < m ∧ Pv m' σ' H') ∧ tb { D with nx := N, ct := N, bk := D.nx } σ H := ⟨_, fun _ _ h => h, q⟩
theorem z_rep {Q : VK} {l : Addr} {k : Int} {xs : List V} (h : H l = some (.lst xs)) (h1 : -(2 ^ 63) ≤ k) (h2 : k < 2 ^ 63) (h3 : xs.length * k.toNat ≤ sizeLine) (q : ∀ p, H p = none → Q (.ref p) (upd H p (.lst (List.replicate k.toNat xs).flatten))) : rRep (.ref l) (.int k) H Q := ⟨l, k, xs, rfl, rfl, h, h1, h2, h3, q⟩
theorem z_in {Q : VK} {neg : Bool} {x : V} {p : Addr} {xs : List V} (h : SqL K H p xs ∨ SqT K H p xs) (fx : flatV x = true) (fs : xs.all flatV = true) (q : Q (.bl (if neg then !inV x xs else inV x xs)) H) : rIn K neg x (.ref p) H Q := ⟨p, xs, rfl, h, fx, fs, q⟩
end
theorem mem_strs {v : V} {ws : List Str} (h : v ∈ ws.map V.str) : ∃ w, w ∈ ws ∧ v = .str w := by
  obtain ⟨w, hw, rfl⟩ := List.mem_map.mp h
  exact ⟨w, hw, rfl⟩
theorem z_cut {D : Ends} {σ : L2.St} {H : Hp} {tu tz : TS} (M : L2.St → Hp → Prop) (h : tu { D with nx := M } σ H) (q : ∀ σ' H', M σ' H' → tz D σ' H') : Evl.tCut tu tz D σ H := ⟨M, h, q⟩
theorem si_ok {n : Int} (h : n.natAbs < 1920) : n.natAbs.log2 < 1920 := Nat.lt_of_le_of_lt (Nat.log2_le_self _) h
/-! ### deep equality -/
mutual
theorem eqv_refl : ∀ (d : PyData), d.canLay0 = true → PyData.eqv d d = true
  | .none, _ => by simp only [PyData.eqv]
  | .bool b, _ => by simp only [PyData.eqv, beq_self_eq_true]
  | .int i, _ => by simp only [PyData.eqv, beq_self_eq_true]
  | .str x, _ => by simp only [PyData.eqv, beq_self_eq_true]
  | .list xs, h => by simp only [PyData.eqv]; exact eqvAll_refl xs (by simpa only [PyData.canLay0] using h)
  | .tuple xs, h => by simp only [PyData.eqv]; exact eqvAll_refl xs (by simpa only [PyData.canLay0] using h)
  | .dict _, h => by simp [PyData.canLay0] at h
theorem eqvAll_refl : ∀ (ds : List PyData), PyData.canLayAll0 ds = true → PyData.eqvAll ds ds = true
  | [], _ => by simp only [PyData.eqvAll]
  | d :: ds, h => by
    simp only [PyData.canLayAll0, Bool.and_eq_true] at h
    simp only [PyData.eqvAll, Bool.and_eq_true]
    exact ⟨eqv_refl d h.1, eqvAll_refl ds h.2⟩
end
section
variable {K : PySem.W.Frag} {H : Hp} {Q : VK} {x y : V} {d e : PyData} {a : Addr} {xs : List V} {ds : List PyData}
theorem lay_of (h : SeqAt.shaped d = true) : d.canLay0 = true := SeqAt.canLay_of_shaped h
theorem z_neD (hx : Dp K H x d) (hy : Dp K H y e) (sd : SeqAt.shaped d = true) (se : SeqAt.shaped e = true) (q : Q (.bl (!PyData.eqv d e)) H) : rNeD K x y H Q := ⟨d, e, hx, hy, sd, se, q⟩
theorem z_eqD (hx : Dp K H x d) (hy : Dp K H y e) (sd : SeqAt.shaped d = true) (se : SeqAt.shaped e = true) (q : Q (.bl (PyData.eqv d e)) H) : rEqD K x y H Q := ⟨d, e, hx, hy, sd, se, q⟩
theorem z_neS (hx : Dp K H x d) (hy : Dp K H y d) (sd : SeqAt.shaped d = true) (q : Q (.bl false) H) : rNeD K x y H Q := ⟨d, d, hx, hy, sd, sd, by rw [eqv_refl d (lay_of sd)]; exact q⟩
theorem z_eqS (hx : Dp K H x d) (hy : Dp K H y d) (sd : SeqAt.shaped d = true) (q : Q (.bl true) H) : rEqD K x y H Q := ⟨d, d, hx, hy, sd, sd, by rw [eqv_refl d (lay_of sd)]; exact q⟩
def strD (ts : List Str) : PyData := .list (ts.map .str)
theorem dpAll_strs : ∀ (ts : List Str), DpAll K H (ts.map V.str) (ts.map .str)
  | [] => .nil
  | t :: r => .cons (.str t) (dpAll_strs r)
theorem dp_strs {ts : List Str} (h : SqL K H a (ts.map V.str)) : Dp K H (.ref a) (strD ts) := .lst h (dpAll_strs ts)
/-- texts of plain signs -/
def plainS (x : Str) : Bool := (tl x).all fun c => decide (c < 128)
theorem strOk_plain {x : Str} (h : plainS x = true) : PyData.strOk x = true := by
  unfold plainS tl at h
  unfold PyData.strOk
  rw [← Array.all_toList]
  rw [List.all_eq_true] at h ⊢
  intro c hc
  have := of_decide_eq_true (h c hc)
  exact decide_eq_true (by omega)
theorem lay_strs : ∀ {ts : List Str}, (∀ t ∈ ts, plainS t = true) → PyData.canLayAll0 (ts.map .str) = true
  | [], _ => by simp only [List.map_nil, PyData.canLayAll0]
  | t :: r, h => by
    simp only [List.map_cons, PyData.canLayAll0, PyData.canLay0, Bool.and_eq_true]
    exact ⟨strOk_plain (h t (by simp)), lay_strs fun z hz => h z (by simp [hz])⟩
theorem depth_strs : ∀ (ts : List Str), PyData.depthAll (ts.map .str) ≤ 1
  | [] => by simp [PyData.depthAll]
  | t :: r => by
    have := depth_strs r
    simp only [List.map_cons, PyData.depthAll, PyData.depth]
    omega
theorem shaped_str {x : Str} (h : plainS x = true) : SeqAt.shaped (.str x) = true := by
  unfold SeqAt.shaped
  simp only [PyData.canLay0, PyData.depth, strOk_plain h, Bool.true_and]
  rfl
theorem shaped_strs {ts : List Str} (h : ∀ t ∈ ts, plainS t = true) : SeqAt.shaped (strD ts) = true := by
  unfold SeqAt.shaped strD
  have := depth_strs ts
  simp only [PyData.canLay0, PyData.depth, lay_strs h, Bool.true_and]
  exact decide_eq_true (by omega)
end
section
variable {K : PySem.W.Frag} {H : Hp} {a : Addr}
def intD (ns : List Int) : PyData := .list (ns.map .int)
theorem dpAll_ints : ∀ (ns : List Int), DpAll K H (ns.map V.int) (ns.map .int)
  | [] => .nil
  | t :: r => .cons (.int t) (dpAll_ints r)
theorem dp_ints {ns : List Int} (h : SqL K H a (ns.map V.int)) : Dp K H (.ref a) (intD ns) := .lst h (dpAll_ints ns)
theorem lay_ints : ∀ (ns : List Int), PyData.canLayAll0 (ns.map .int) = true
  | [] => by simp only [List.map_nil, PyData.canLayAll0]
  | t :: r => by simp only [List.map_cons, PyData.canLayAll0, PyData.canLay0, lay_ints r, Bool.and_self]
theorem depth_ints : ∀ (ns : List Int), PyData.depthAll (ns.map .int) ≤ 1
  | [] => by simp [PyData.depthAll]
  | t :: r => by
    have := depth_ints r
    simp only [List.map_cons, PyData.depthAll, PyData.depth]
    omega
theorem shaped_ints (ns : List Int) : SeqAt.shaped (intD ns) = true := by
  unfold SeqAt.shaped intD
  have := depth_ints ns
  simp only [PyData.canLay0, PyData.depth, lay_ints ns, Bool.true_and]
  exact decide_eq_true (by omega)
theorem eqv_ints_nil (ns : List Int) : PyData.eqv (intD ns) (intD []) = ns.isEmpty := by
  cases ns with
  | nil => simp [intD, PyData.eqv, PyData.eqvAll]
  | cons t r => simp [intD, PyData.eqv, PyData.eqvAll]
theorem shaped_int (i : Int) : SeqAt.shaped (.int i) = true := by
  unfold SeqAt.shaped
  simp only [PyData.canLay0, PyData.depth, Bool.true_and]
  rfl
end
/-! ### lists of refusals -/
section
variable {K : PySem.W.Frag} {H H1 : Hp} {Q : VK} {σ : L2.St} {te : TE} {vs : List Nat} {D : Addr} {Qd : Hp → Prop}
def refD (w : Str) : PyData := .tuple [.str "refused", .str w]
def refsD (n : Nat) (w : Str) : PyData := .list (List.replicate n (refD w))
theorem dp_ref {r : Addr} {w : Str} (h : H r = some (.tup [.str "refused", .str w])) : Dp K H (.ref r) (refD w) := .tup (SqT.of h) (.cons (.str _) (.cons (.str _) .nil))
theorem dpAll_refs {w : Str} : ∀ {rs : List Addr}, (∀ r ∈ rs, H r = some (.tup [.str "refused", .str w])) → DpAll K H (rs.map V.ref) (List.replicate rs.length (refD w))
  | [], _ => .nil
  | r :: rs, h => .cons (dp_ref (h r (by simp))) (dpAll_refs fun z hz => h z (by simp [hz]))
theorem dp_refs {a : Addr} {w : Str} {rs : List Addr} {n : Nat} (h : H a = some (.lst (rs.map V.ref))) (hn : rs.length = n) (hr : ∀ r ∈ rs, H r = some (.tup [.str "refused", .str w])) : Dp K H (.ref a) (refsD n w) := by
  rw [← hn]; exact .lst (SqL.of h) (dpAll_refs hr)
theorem lay_refs {w : Str} (h : plainS w = true) : ∀ n, PyData.canLayAll0 (List.replicate n (refD w)) = true
  | 0 => by simp [PyData.canLayAll0]
  | n + 1 => by
    simp only [List.replicate_succ, PyData.canLayAll0, lay_refs h n, Bool.and_true, refD, PyData.canLay0, Bool.and_eq_true]
    exact ⟨⟨strOk_plain (x := "refused") (by decide +kernel), strOk_plain h⟩, lay_refs h n⟩
theorem depth_refs {w : Str} : ∀ n, PyData.depthAll (List.replicate n (refD w)) ≤ 3
  | 0 => by simp [PyData.depthAll]
  | n + 1 => by
    have := depth_refs (w := w) n
    simp only [List.replicate_succ, PyData.depthAll, refD, PyData.depth]
    simp only [refD] at this
    omega
theorem shaped_refs {w : Str} (h : plainS w = true) (n : Nat) : SeqAt.shaped (refsD n w) = true := by
  unfold SeqAt.shaped refsD
  have := depth_refs (w := w) n
  simp only [PyData.canLay0, PyData.depth, lay_refs h, Bool.true_and]
  exact decide_eq_true (by omega)
/-- the items of a comprehension are refusals, each a new tuple -/
def RefGo (te : TE) (σ : L2.St) (w : Str) (H1 : Hp) : Prop := ∀ (H2 : Hp) (Q2 : VK), Same H1 H2 → (∀ r H3, H2 r = none → Same H2 H3 → H3 r = some (.tup [.str "refused", .str w]) → Q2 (.ref r) H3) → te σ H2 Q2
def RefEnd (H1 : Hp) (D : Addr) (n : Nat) (w : Str) (H' : Hp) : Prop := Same H1 H' ∧ ∃ rs : List Addr, H' D = some (.lst (rs.map V.ref)) ∧ rs.length = n ∧ ∀ r ∈ rs, H' r = some (.tup [.str "refused", .str w])
theorem ref_turn {n i : Nat} {w : Str} {H2 : Hp} {σ2 : L2.St} (hn : n < 1000) (hi : i < n) (hD : H1 D = none) (p : RefEnd H1 D i w H2) (he : RefGo te σ2 w H1) : te σ2 H2 fun y H4 => ∃ acc, H4 D = some (.lst acc) ∧ acc.length < sizeLine ∧ RefEnd H1 D (i + 1) w (upd H4 D (.lst (acc ++ [y]))) := by
  obtain ⟨s2, rs, hd, hl, hr⟩ := p
  refine he H2 _ s2 fun r H3 r0 s3 h3 => ⟨rs.map V.ref, s3 _ _ hd, by rw [List.length_map, sizeLine_eq]; omega, ?_⟩
  have nrD : r ≠ D := (ne_of_none hd r0).symm
  refine ⟨Same.own (Same.trans s2 s3) hD, rs ++ [r], by rw [upd_same, List.map_append]; rfl, by simp [hl], fun z hz => ?_⟩
  have nz : z ≠ D := by
    rcases List.mem_append.mp hz with q | q
    · exact ne_of (hr z q) hd (by intro z; cases z)
    · rw [List.mem_singleton.mp q]; exact nrD
  rw [upd_ne nz]
  rcases List.mem_append.mp hz with q | q
  · exact s3 _ _ (hr z q)
  · rw [List.mem_singleton.mp q]; exact h3
theorem lc_refTup {a : Addr} {xs : List V} {j : Nat} {w : Str} (hT : SqT K H1 a xs) (hn : xs.length < 1000) (hw : ∀ v, wipe ((wipe σ vs).set j (some v)) vs = wipe σ vs) (hD : H1 D = none) (he : ∀ x ∈ xs, RefGo te ((wipe σ vs).set j (some x)) w H1) (hd : ∀ H', RefEnd H1 D xs.length w H' → Qd H') : LcGo (Itt K a) (gName j) tYes te vs σ D H1 Qd := by
  refine lg_tup (K := K) (xs := xs) (fun i H2 => RefEnd H1 D i w H2) ⟨Same.own (Same.refl _) hD, [], upd_same, rfl, by simp⟩ (fun i H2 _ p => Evl.ex_t p.1 hT) ?_ hd
  intro i x H2 hx p
  exact ⟨hw _, z_yes (iteT (ref_turn hn (List.getElem?_eq_some_iff.mp hx).1 hD p (he x (List.mem_of_getElem? hx))))⟩
theorem lc_refRng {n : Nat} {lo : Int} {j : Nat} {w : Str} (hn : n < 1000) (hw : ∀ v, wipe ((wipe σ vs).set j (some v)) vs = wipe σ vs) (hD : H1 D = none) (he : ∀ i, i < n → RefGo te ((wipe σ vs).set j (some (.int (lo + (i : Nat))))) w H1) (hd : ∀ H', RefEnd H1 D n w H' → Qd H') : LcGo (Itr lo n) (gName j) tYes te vs σ D H1 Qd := by
  refine lg_range (fun i H2 => RefEnd H1 D i w H2) ⟨Same.own (Same.refl _) hD, [], upd_same, rfl, by simp⟩ ?_ hd
  intro i H2 hi p
  exact ⟨hw _, z_yes (iteT (ref_turn hn hi hD p (he i hi)))⟩
/-- [("refused", w)] * n -/
theorem dp_rep {a r : Addr} {w : Str} (n : Nat) (h : H a = some (.lst (List.replicate n [V.ref r]).flatten)) (hr : H r = some (.tup [.str "refused", .str w])) : Dp K H (.ref a) (refsD n w) := by
  have e : (List.replicate n [V.ref r]).flatten = (List.replicate n r).map V.ref := by
    induction n with
    | zero => rfl
    | succ n ih => rw [List.replicate_succ, List.flatten_cons, List.replicate_succ, List.map_cons]; simp
  rw [e] at h
  refine dp_refs h (by simp) fun z hz => ?_
  rw [List.eq_of_mem_replicate hz]; exact hr
end

theorem z_rng3 {σ : L2.St} {H : Hp} {ta : TA} {R : It → Hp → Prop} (q : ta σ H fun vs H1 => ∃ (i j c : Int) (n : Nat), vs = [.int i, .int j, .int c] ∧ RgC i j c n ∧ R (Itc i c n) H1) : iRng3 ta σ H R := q
theorem z_rng3e {a b c : Int} {n : Nat} {P : Int → Int → Nat → Prop} (h : RgC a b c n) (q : P a c n) : ∃ (i j c' : Int) (n : Nat), [V.int a, V.int b, V.int c] = [.int i, .int j, .int c'] ∧ RgC i j c' n ∧ P i c' n := ⟨a, b, c, n, rfl, h, q⟩
theorem fg_rangeC {σ : L2.St} {H : Hp} {D : Ends} {g : TG} {tb : TS} {lo c : Int} {n : Nat} (Pv : Nat → L2.St → Hp → Prop) (h0 : Pv 0 σ H) (hs : ∀ i σ H, i < n → Pv i σ H → g (.int (lo + (i : Nat) * c)) σ H fun σ2 H2 => tb { D with nx := Pv (i + 1), ct := Pv (i + 1), bk := D.nx } σ2 H2) (hd : ∀ σ H, Pv n σ H → D.nx σ H) : ForGo (Itc lo c n) g tb D σ H := for_rangeC Pv h0 hs hd
theorem z_inStr {H : Hp} {Q : VK} {x y : Str} (q : Q (.bl (!(Builtin.Str.occurrences y x 0 y.length 1).isEmpty)) H) : rInStr (.str x) (.str y) H Q := ⟨x, y, rfl, rfl, q⟩
/-! ### the rules with the written part named -/
section
variable {X : Cx} {K : PySem.W.Frag}
theorem ix_listK (h : X.K = K) : IxR X (rIxL K) := h ▸ ix_list
theorem ix_tupK (h : X.K = K) : IxR X (rIxT K) := h ▸ ix_tup
theorem call_lnK (h : X.K = K) : CallR X (.builtin "len") (rLn K) := h ▸ call_ln
theorem call_loK (h : X.K = K) : CallR X (.type "list") (rLstOf K) := h ▸ call_lo
theorem cr_allK (h : X.K = K) (hc : X.calm = true) : CallR X (.builtin "all") (rAll K) := h ▸ cr_all hc
theorem cr_anyK (h : X.K = K) (hc : X.calm = true) : CallR X (.builtin "any") (rAny K) := h ▸ cr_any hc
theorem cr_minK (h : X.K = K) (hc : X.calm = true) : CallR X (.builtin "min") (rMin K) := h ▸ cr_min hc
theorem cr_maxK (h : X.K = K) (hc : X.calm = true) : CallR X (.builtin "max") (rMax K) := h ▸ cr_max hc
theorem op_eqDK (h : X.K = K) (hu : X.A.units + 64 < cLine) : OpR X (compareOp .Eq) (rEqD K) := h ▸ op_eqD hu
theorem op_neDK (h : X.K = K) (hu : X.A.units + 64 < cLine) : OpR X (compareOp .NotEq) (rNeD K) := h ▸ op_neD hu
theorem op_inK (h : X.K = K) : OpR X (compareOp .In) (rIn K false) := h ▸ op_in_seq
theorem op_notInK (h : X.K = K) : OpR X (compareOp .NotIn) (rIn K true) := h ▸ op_notIn_seq
theorem sl_listK (h : X.K = K) : SlR X (rSlL K) := h ▸ sl_list
theorem call_isXK (h : X.K = K) : CallR X (.builtin "isinstance") (rIsX K) := h ▸ call_isX
theorem mt_countK (h : X.K = K) : MtR X "list.count" (rCount K) := h ▸ mt_countF
theorem mt_indexK (h : X.K = K) : MtR X "list.index" (rIndex K) := h ▸ mt_index
theorem pt_trK {a : Expr} {ta : TE} (h : X.K = K) (ha : PE X a ta) (he : ∀ whole, isTrue a X.env whole = (do let v ← whole; standAt a.pos; holding [v] (truthy v)) := by intro _; rfl) : PT X a (tTr K ta) := h ▸ pt_tr ha he
theorem pi_listK {tg l : Expr} {tl : TE} (h : X.K = K) (hl : PE X l tl) : PI X tg l (iList K tl) := h ▸ pi_list hl
theorem pi_tupK {tg l : Expr} {tl : TE} (h : X.K = K) (hl : PE X l tl) : PI X tg l (iTup K tl) := h ▸ pi_tup hl
variable {o e : Expr} {es : List Expr} {to : TE} {t : TA} {name : Str} {apos cpos : Pos} {T id : String} {r : V → List V → Hp → VK → Prop}
theorem pe_bm0K (h : X.K = K) (pa : PlainAttrs T) (slot : Slot T name id) (hty : typeOf (.builtin id) = pure (.type "method_descriptor")) (hm : MtR X id r) (ho : PE X o to) (hbase : attributeBase o name X.env (eval o X.env) = eval o X.env := by rfl) (hline : (apos.endLine == cpos.line) = true := by rfl) : PE X (.Call (.Attribute o name apos) [] [] cpos) (tBM0 K T r to) := h ▸ pe_bm0 pa slot hty hm ho hbase hline
theorem pe_bmK (h : X.K = K) (pa : PlainAttrs T) (slot : Slot T name id) (hty : typeOf (.builtin id) = pure (.type "method_descriptor")) (hm : MtR X id r) (ho : PE X o to) (ha : PA X (e :: es) t) (hbase : attributeBase o name X.env (eval o X.env) = eval o X.env := by rfl)
    (hfew : ((backTo cpos (starEach (e :: es) X.env)).all (fun x => !x.1) && (backToKw cpos (keywordEach [] X.env)).all (fun x => x.1.isSome) && decide ((e :: es).length + ([] : List Keyword).length + (if ([] : List Keyword).isEmpty then 0 else 1) < 30)) = true := by rfl)
    (hline : (apos.endLine == cpos.line) = true := by rfl) (hs : starEach (e :: es) X.env = (false, eval e X.env) :: starEach es X.env := by rfl) (hplain : (backTo cpos (starEach es X.env)).any (·.1) = false := by rfl) : PE X (.Call (.Attribute o name apos) (e :: es) [] cpos) (tBM K T r to t) := h ▸ pe_bm pa slot hty hm ho ha hbase hfew hline hs hplain
theorem pg_tupK {es : List Expr} {k : Nat} {t : TGs} {n : Nat} {pos : Pos} (hK : X.K = K) (hc : X.calm = true) (h : PGs X es t) (hn : (assignEach es X.env).length = n := by rfl) (hst : (assignEach es X.env).findIdx? (·.1) = none := by rfl) : PG X (.Tuple es k pos) (gTup K n t) := hK ▸ pg_tup hc h hn hst
end
/-! ### a comprehension over a range, tests and items that leave the heap as it is -/
theorem range_filter_succ {n : Nat} {f : Nat → Bool} : (List.range (n + 1)).filter f = (List.range n).filter f ++ (if f n = true then [n] else []) := by
  rw [List.range_succ, List.filter_append, List.filter_cons, List.filter_nil]
theorem lc_rngP {σ : L2.St} {H1 : Hp} {te : TE} {tt : TT} {vs : List Nat} {D : Addr} {Qd : Hp → Prop} {lo : Int} {n j : Nat} (f : Nat → Bool) (v : Nat → V) (hn : n < 1000000) (hw : ∀ v, wipe ((wipe σ vs).set j (some v)) vs = wipe σ vs) (hD : H1 D = none)
    (ht : ∀ (i : Nat) (H2 : Hp) (Q2 : Bool → Hp → Prop), i < n → Same H1 H2 → Q2 (f i) H2 → tt ((wipe σ vs).set j (some (.int (lo + (i : Nat))))) H2 Q2)
    (he : ∀ (i : Nat) (H2 : Hp) (Q2 : VK), i < n → f i = true → Same H1 H2 → Q2 (v i) H2 → te ((wipe σ vs).set j (some (.int (lo + (i : Nat))))) H2 Q2)
    (hd : Qd (upd H1 D (.lst (((List.range n).filter f).map v)))) : LcGo (Itr lo n) (gName j) tt te vs σ D H1 Qd := by
  refine lg_range (fun i H2 => H2 = upd H1 D (.lst (((List.range i).filter f).map v))) rfl ?_ (fun H e => by rw [e]; exact hd)
  rintro i H2 hi rfl
  have sm : Same H1 (upd H1 D (.lst (((List.range i).filter f).map v))) := Same.own (Same.refl _) hD
  refine ⟨hw _, ht i _ _ hi sm ?_⟩
  refine ite_b (fun h => ?_) (fun h => ?_)
  · refine he i _ _ hi h sm ⟨_, upd_same, ?_, ?_⟩
    · rw [List.length_map, sizeLine_eq]
      have := List.length_filter_le f (List.range i)
      rw [List.length_range] at this
      omega
    · rw [upd_upd, range_filter_succ, if_pos h, List.map_append]; rfl
  · rw [range_filter_succ, if_neg (by rw [h]; exact Bool.false_ne_true), List.append_nil]
/-! ### histories -/
def histF (m : Int) (lk ls : Addr) (s : Int) : List (Str × V) := [("most", .int m), ("kept", .ref lk), ("shown", .ref ls), ("spot", .int s)]
structure HistAt (K : PySem.W.Frag) (H : Hp) (p lk ls : Addr) (m : Int) (ks ss : List Str) (s : Int) : Prop where
  ob : ∃ dx, H p = some (.ins (He.ga K "History") dx (histF m lk ls s))
  kl : H lk = some (.lst (ks.map V.str))
  sl : H ls = some (.lst (ss.map V.str))
  ne : lk ≠ ls
section
variable {K : PySem.W.Frag} {H H' : Hp} {p lk ls : Addr} {m : Int} {ks ss : List Str} {s : Int}
theorem HistAt.same (R : HistAt K H p lk ls m ks ss s) (h : Same H H') : HistAt K H' p lk ls m ks ss s :=
  ⟨let ⟨dx, e⟩ := R.ob; ⟨dx, h _ _ e⟩, h _ _ R.kl, h _ _ R.sl, R.ne⟩
theorem HistAt.fr {S : List Addr} (R : HistAt K H p lk ls m ks ss s) (h : Fr S H H') (h1 : p ∉ S) (h2 : lk ∉ S) (h3 : ls ∉ S) : HistAt K H' p lk ls m ks ss s :=
  ⟨let ⟨dx, e⟩ := R.ob; ⟨dx, h _ _ e h1⟩, h _ _ R.kl h2, h _ _ R.sl h3, R.ne⟩
end
/-- a line is added: not an empty one, none like the last; the oldest goes -/
def addH (m : Int) (x : Str) (ks : List Str) : List Str := if x = "" ∨ ks.getLast? = some x then ks else (ks ++ [x]).drop ((ks ++ [x]).length - m.toNat)
/-- whether a part is in a text -/
def inS (part x : Str) : Bool := !(Builtin.Str.occurrences x part 0 x.length 1).isEmpty
def hitH (ks : List Str) (part : Str) (spot : Int) (j : Nat) : Bool := decide ((j : Int) ≤ spot) && inS part (ks.getD j "")
/-- the last line from a place back that has a part -/
def findH (ks : List Str) (part : Str) (spot : Int) : Option Nat := ((List.range ks.length).filter (hitH ks part spot)).getLast?
def optV : Option Nat → V
  | none => .non
  | some k => .int (k : Nat)
theorem last_filter {n k : Nat} {f : Nat → Bool} (hk : k < n) (h1 : f k = true) (h2 : ∀ j, k < j → j < n → f j = false) : ((List.range n).filter f).getLast? = some k := by
  induction n with
  | zero => omega
  | succ n ih =>
    rw [List.range_succ, List.filter_append]
    by_cases e : k = n
    · subst e
      rw [List.filter_cons, if_pos h1]
      simp
    · have hn : f n = false := h2 n (by omega) (by omega)
      rw [List.filter_cons, if_neg (by rw [hn]; simp), List.filter_nil, List.append_nil]
      exact ih (by omega) fun j a b => h2 j a (by omega)
theorem none_filter {n : Nat} {f : Nat → Bool} (h2 : ∀ j, j < n → f j = false) : ((List.range n).filter f).getLast? = none := by
  have : (List.range n).filter f = [] := List.filter_eq_nil_iff.mpr fun j hj => by rw [h2 j (List.mem_range.mp hj)]; simp
  rw [this]; rfl
theorem eqv_strs (xs ys : List Str) : PyData.eqv (strD xs) (strD ys) = decide (xs = ys) := by
  unfold strD
  simp only [PyData.eqv]
  induction xs generalizing ys with
  | nil => cases ys with
    | nil => simp [PyData.eqvAll]
    | cons y r => simp [PyData.eqvAll]
  | cons x xs ih => cases ys with
    | nil => simp [PyData.eqvAll]
    | cons y r =>
      simp only [List.map_cons, PyData.eqvAll, PyData.eqv, ih, List.cons.injEq]
      by_cases e1 : x = y
      · subst e1; simp
      · have : (x == y) = false := beq_eq_false_iff_ne.mpr e1
        rw [this, Bool.false_and]; simp [e1]
theorem last_slice (ks : List Str) : cutL ks (some (-1)) none = match ks.getLast? with | some x => [x] | none => [] := by
  rw [show (-1 : Int) = -(1 : Int) from rfl, cutL_lastN ks (by decide)]
  rcases List.eq_nil_or_concat ks with rfl | ⟨l, x, rfl⟩
  · rfl
  · simp

/-! ### targets that are attributes -/
def gAtt (C : Addr) (to : TE) (f : Str) : TG := fun v σ H Q => to σ H fun x H1 => ∃ a dx fs, x = .ref a ∧ H1 a = some (.ins C dx fs) ∧ fs.length < 1000 ∧ Q σ (upd H1 a (.ins C dx (putF f v fs)))
theorem pg_att {X : Cx} {C : Addr} {o : Expr} {to : TE} {f : Str} {pos : Pos} (c : Cls X.K C) (n : NoAttr X.K C f) (ho : PE X o to) : PG X (.Attribute o f pos) (gAtt C to f) := by
  refine ⟨fun pins s σ H v u Q I r h => ?_⟩
  rw [arm_assign_Attribute]
  refine wpAny_bind (wpAny_holding (thn (ho.run pins s σ H _ I h) ?_))
  rintro ov s1 ⟨x, H1, I1, rx, a, dx, fs, rfl, ea, l, q⟩
  obtain rfl : ov = Value.ref a := rx
  exact wpAny_bind (wpAny_standAt (wpAny_bind (wpAny_holding (setattr_ok I1 ea c n l r fun s3 I3 => wpAny_release ⟨σ, _, I3, q⟩))))
section
variable {σ : L2.St} {H : Hp} {K : PySem.W.Frag} {a C dx : Addr} {f : Str} {v : V} {vs xs : List V} {c : L2.St → Hp → Prop} {to : TE} {t : TG} {u : TGs} {fs : List (Str × V)}
theorem z_gatt (q : to σ H fun x H1 => ∃ a dx fs, x = .ref a ∧ H1 a = some (.ins C dx fs) ∧ fs.length < 1000 ∧ c σ (upd H1 a (.ins C dx (putF f v fs)))) : gAtt C to f v σ H c := q
theorem z_gnil (q : c σ H) : gNil [] σ H c := ⟨rfl, q⟩
theorem z_gcons (q : t v σ H fun σ' H' => u vs σ' H' c) : gCons t u (v :: vs) σ H c := ⟨v, vs, rfl, q⟩
theorem z_gtup {n : Nat} (h : SqT K H a xs) (hn : xs.length = n) (q : u xs σ H c) : gTup K n u (.ref a) σ H c := ⟨a, xs, rfl, h, hn, q⟩
theorem z_par {D : Ends} {i j : Nat} {ta : TA} (q : ta σ H fun vs H1 => ∃ v w, vs = [v, w] ∧ D.nx ((σ.set i (some v)).set j (some w)) H1) : tPar i j ta D σ H := q
theorem z_par1 {x y : V} {P : V → V → Prop} (q : P x y) : ∃ v w, [x, y] = [v, w] ∧ P v w := ⟨x, y, rfl, q⟩
theorem z_truS {QB : Bool → Prop} {s1 : Str} (h : s1.length ≤ sizeLine) (q : QB ((s1.length : Int) != 0)) : ∃ k, TruV K (.str s1) H k ∧ QB k := ⟨_, ⟨h, rfl⟩, q⟩
end
/-! ### lines -/
/-- text, caret and mark -/
structure Pic where
  txt : Str
  at_ : Int
  mrk : Int
structure LineS where
  now : Str
  caret : Int
  mark : Int
  before : List Pic
  later : List Pic
  run : Int
def PicAt (H : Hp) (r : Addr) (P : Pic) : Prop := H r = some (.tup [.str P.txt, .int P.at_, .int P.mrk])
/-- a list of pictures at l -/
def PicsAt (H : Hp) (l : Addr) (ps : List Pic) : Prop := ∃ rs : List Addr, H l = some (.lst (rs.map V.ref)) ∧ Paired (PicAt H) rs ps
def lineF (now : Str) (caret mark : Int) (lb ll : Addr) (run : Int) : List (Str × V) := [("now", .str now), ("caret", .int caret), ("mark", .int mark), ("before", .ref lb), ("later", .ref ll), ("run", .int run)]
structure LineAt (K : PySem.W.Frag) (H : Hp) (p lb ll : Addr) (L : LineS) : Prop where
  ob : ∃ dx, H p = some (.ins (He.ga K "Line") dx (lineF L.now L.caret L.mark lb ll L.run))
  bs : PicsAt H lb L.before
  ls : PicsAt H ll L.later
  ne : lb ≠ ll
/-- no tuple stands at these -/
def Nt (H : Hp) (S : List Addr) : Prop := ∀ b ∈ S, ∀ xs, H b ≠ some (.tup xs)
theorem nt_nil {H : Hp} : Nt H [] := fun _ h => nomatch h
theorem Nt.cons {H : Hp} {S : List Addr} {b : Addr} (h : ∀ xs, H b ≠ some (.tup xs)) (t : Nt H S) : Nt H (b :: S) := fun c hc => by
  rcases List.mem_cons.mp hc with rfl | z
  · exact h
  · exact t c z
theorem nt_lst {H : Hp} {b : Addr} {ys : List V} (h : H b = some (.lst ys)) : ∀ xs, H b ≠ some (.tup xs) := fun xs e => by rw [h] at e; cases e
theorem nt_ins {H : Hp} {b C dx : Addr} {fs : List (Str × V)} (h : H b = some (.ins C dx fs)) : ∀ xs, H b ≠ some (.tup xs) := fun xs e => by rw [h] at e; cases e
theorem nt_dK {H : Hp} {b : Addr} {fs : List (Key × V)} (h : H b = some (.dK fs)) : ∀ xs, H b ≠ some (.tup xs) := fun xs e => by rw [h] at e; cases e
theorem nt_non {H : Hp} {b : Addr} (h : H b = none) : ∀ xs, H b ≠ some (.tup xs) := fun xs e => by rw [h] at e; cases e
section
variable {K : PySem.W.Frag} {H H' : Hp} {p lb ll l : Addr} {L : LineS} {ps : List Pic} {S : List Addr} {r : Addr} {P : Pic}
theorem PicAt.fr (h : PicAt H r P) (f : Fr S H H') (n : Nt H S) : PicAt H' r P := f _ _ h fun z => n _ z _ h
theorem PicAt.same (h : PicAt H r P) (f : Same H H') : PicAt H' r P := f _ _ h
theorem pics_fr {rs : List Addr} (h : Paired (PicAt H) rs ps) (f : Fr S H H') (n : Nt H S) : Paired (PicAt H') rs ps := Paired.mapP h fun _ _ z => z.fr f n
theorem pics_same {rs : List Addr} (h : Paired (PicAt H) rs ps) (f : Same H H') : Paired (PicAt H') rs ps := Paired.mapP h fun _ _ z => z.same f
theorem PicsAt.fr (h : PicsAt H l ps) (f : Fr S H H') (n : Nt H S) (hl : l ∉ S) : PicsAt H' l ps := let ⟨rs, a, b⟩ := h; ⟨rs, f _ _ a hl, pics_fr b f n⟩
theorem PicsAt.same (h : PicsAt H l ps) (f : Same H H') : PicsAt H' l ps := let ⟨rs, a, b⟩ := h; ⟨rs, f _ _ a, pics_same b f⟩
theorem PicsAt.nt (h : PicsAt H l ps) : ∀ xs, H l ≠ some (.tup xs) := let ⟨_, a, _⟩ := h; nt_lst a
theorem PicsAt.mu (h : PicsAt H l ps) : Mu H l := let ⟨_, a, _⟩ := h; Mu.lst a
theorem LineAt.same (R : LineAt K H p lb ll L) (h : Same H H') : LineAt K H' p lb ll L := ⟨let ⟨dx, e⟩ := R.ob; ⟨dx, h _ _ e⟩, R.bs.same h, R.ls.same h, R.ne⟩
theorem LineAt.fr (R : LineAt K H p lb ll L) (f : Fr S H H') (n : Nt H S) (h1 : p ∉ S) (h2 : lb ∉ S) (h3 : ll ∉ S) : LineAt K H' p lb ll L := ⟨let ⟨dx, e⟩ := R.ob; ⟨dx, f _ _ e h1⟩, R.bs.fr f n h2, R.ls.fr f n h3, R.ne⟩
theorem LineAt.nt (R : LineAt K H p lb ll L) : Nt H [p, lb, ll] := let ⟨_, e⟩ := R.ob; .cons (nt_ins e) (.cons R.bs.nt (.cons R.ls.nt nt_nil))
theorem LineAt.nes (R : LineAt K H p lb ll L) : p ≠ lb ∧ p ≠ ll := by
  obtain ⟨⟨dx, ho⟩, ⟨_, hb, _⟩, ⟨_, hl, _⟩, _⟩ := R
  exact ⟨ne_of ho hb (by intro z; cases z), ne_of ho hl (by intro z; cases z)⟩
end
theorem paired_snoc {α β : Type} {F : α → β → Prop} {xs : List α} {ys : List β} {x : α} {y : β} (h : Paired F xs ys) (q : F x y) : Paired F (xs ++ [x]) (ys ++ [y]) := by
  induction h with
  | nil => exact .cons q .nil
  | cons a _ ih => exact .cons a ih
theorem paired_len {α β : Type} {F : α → β → Prop} {xs : List α} {ys : List β} (h : Paired F xs ys) : xs.length = ys.length := by
  induction h with
  | nil => rfl
  | cons _ _ ih => rw [List.length_cons, List.length_cons, ih]
theorem paired_last {α β : Type} {F : α → β → Prop} {xs : List α} {ys : List β} {y : β} (h : Paired F xs (ys ++ [y])) : ∃ xs' x, xs = xs' ++ [x] ∧ Paired F xs' ys ∧ F x y := by
  induction ys generalizing xs with
  | nil =>
    cases h with
    | cons a t =>
      cases t
      exact ⟨[], _, rfl, .nil, a⟩
  | cons z zs ih =>
    cases h with
    | cons a t =>
      obtain ⟨xs', x, rfl, h1, h2⟩ := ih t
      exact ⟨_ :: xs', x, rfl, .cons a h1, h2⟩
theorem pics_push {H : Hp} {l r : Addr} {ps : List Pic} {P : Pic} (h : PicsAt H l ps) (hr : H r = none) : ∀ rs : List Addr, H l = some (.lst (rs.map V.ref)) → PicsAt (upd (upd H r (.tup [.str P.txt, .int P.at_, .int P.mrk])) l (.lst (rs.map V.ref ++ [.ref r]))) l (ps ++ [P]) := fun rs hl => by
  obtain ⟨rs', a, b⟩ := h
  have e : rs.map V.ref = rs'.map V.ref := by rw [hl] at a; injection a with a; injection a
  rw [e]
  have s1 : Same H (upd H r (.tup [.str P.txt, .int P.at_, .int P.mrk])) := Same.new (Same.refl _) hr
  have nrl : r ≠ l := (ne_of_none hl hr).symm
  have f : Fr [l] (upd H r (.tup [.str P.txt, .int P.at_, .int P.mrk])) (upd (upd H r (.tup [.str P.txt, .int P.at_, .int P.mrk])) l (.lst (rs'.map V.ref ++ [.ref r]))) := Fr.upd Fr.refl (by simp)
  refine ⟨rs' ++ [r], by rw [upd_same, List.map_append]; rfl, paired_snoc (pics_fr (pics_same b s1) f (.cons (nt_lst (s1 _ _ hl)) nt_nil)) ?_⟩
  show upd _ l _ r = _
  rw [upd_ne nrl, upd_same]
/-! the mirror of lines -/
namespace LineS
def pic (L : LineS) : Pic := ⟨L.now, L.caret, L.mark⟩
def len (L : LineS) : Int := (L.now.length : Int)
def fresh (x : Str) : LineS := ⟨x, x.length, 0, [], [], 0⟩
def go (L : LineS) (a : Int) : LineS := { L with caret := a, run := 0 }
def putMark (L : LineS) (a : Int) : LineS := { L with mark := a, run := 0 }
def rest (L : LineS) : LineS := { L with run := 0 }
def show_ (L : LineS) (P : Pic) : LineS := { L with now := P.txt, caret := P.at_, mark := P.mrk }
def newMark (m f l : Int) (n : Nat) : Int := if l ≤ m ∧ f < m then m - (l - f) + n else if f < m then f + n else m
def spliced (x : Str) (f l : Int) (new : Str) : Str := S ((tl x).take f.toNat ++ tl new ++ (tl x).drop l.toNat)
def replace (L : LineS) (f l : Int) (new : Str) (c : Int) : LineS := { L with now := spliced L.now f l new, caret := c, mark := newMark L.mark f l new.length }
def change (L : LineS) (f l : Int) (new : Str) (c : Int) : LineS := { L with before := L.before ++ [L.pic], later := [], run := 0 }.replace f l new c
def write (L : LineS) (x : Str) : LineS :=
  if L.run = 0 ∨ L.run = 20 then { L with before := L.before ++ [L.pic], later := [], run := 1 }.replace L.caret L.caret x (L.caret + x.length)
  else { L with later := [], run := L.run + 1 }.replace L.caret L.caret x (L.caret + x.length)
def undo (L : LineS) : Bool × LineS := match L.before.getLast? with
  | none => (false, { L with run := 0 })
  | some P => (true, { L with now := P.txt, caret := P.at_, mark := P.mrk, before := L.before.dropLast, later := L.later ++ [L.pic], run := 0 })
def redo (L : LineS) : Bool × LineS := match L.later.getLast? with
  | none => (false, { L with run := 0 })
  | some P => (true, { L with now := P.txt, caret := P.at_, mark := P.mrk, later := L.later.dropLast, before := L.before ++ [L.pic], run := 0 })
def place (x : Str) (a : Int) : Prop := 0 ≤ a ∧ a ≤ x.length
instance (x : Str) (a : Int) : Decidable (place x a) := inferInstanceAs (Decidable (_ ∧ _))
end LineS

/-! ### dicts of texts -/
def DG (kvs : List (Key × V)) (x : Str) (v : V) : Prop := valV kvs (.inr x) = some v
/-- the same but at these keys -/
def Has (kvs : List (Key × V)) (x : Str) : Prop := ∃ v, DG kvs x v
structure Ex (S : List Str) (kvs kvs' : List (Key × V)) : Prop where
  v : ∀ x, x ∉ S → valV kvs' (.inr x) = valV kvs (.inr x)
  h : ∀ x, Has kvs x → Has kvs' x
  l : (∀ x ∈ S, Has kvs x) → kvs'.length = kvs.length
theorem valV_put_eq {kvs : List (Key × V)} {k : Key} {v : V} : valV (putK kvs k v) k = some v := by
  unfold putK
  split
  · rename_i h
    induction kvs with
    | nil => cases h
    | cons p r ih =>
      rw [List.map_cons]
      by_cases e : p.1 = k
      · rw [if_pos e]; exact valV_pos e
      · rw [if_neg e, valV_neg e]
        refine ih ?_
        simpa [e] using h
  · rename_i h
    induction kvs with
    | nil => exact valV_pos rfl
    | cons p r ih =>
      have e : ¬ p.1 = k := fun e => h (by simp [e])
      rw [List.cons_append, valV_neg e]
      exact ih fun z => h (by simp [z])
theorem valV_put_ne {kvs : List (Key × V)} {k k' : Key} {v : V} (n : k' ≠ k) : valV (putK kvs k v) k' = valV kvs k' := by
  unfold putK
  split
  · rename_i hh; clear hh
    induction kvs with
    | nil => rfl
    | cons p r ih =>
      rw [List.map_cons]
      by_cases e : p.1 = k
      · rw [if_pos e, valV_neg (by show ¬ p.1 = k'; rw [e]; exact fun z => n z.symm), valV_neg (by rw [e]; exact fun z => n z.symm), ih]
      · rw [if_neg e]
        by_cases e' : p.1 = k'
        · rw [valV_pos e', valV_pos e']
        · rw [valV_neg e', valV_neg e', ih]
  · rename_i hh; clear hh
    induction kvs with
    | nil => rw [List.nil_append, valV_neg (fun z => n z.symm)]
    | cons p r ih =>
      rw [List.cons_append]
      by_cases e' : p.1 = k'
      · rw [valV_pos e', valV_pos e']
      · rw [valV_neg e', valV_neg e', ih]
theorem dg_same {kvs : List (Key × V)} {x : Str} {v : V} : DG (putK kvs (.inr x) v) x v := valV_put_eq
theorem dg_ne {kvs : List (Key × V)} {x y : Str} {v w : V} (n : (y == x) = false) (h : DG kvs y w) : DG (putK kvs (.inr x) v) y w := by
  unfold DG
  rw [valV_put_ne]
  · exact h
  · intro z; injection z with z; rw [z] at n; simp at n
theorem put_len {kvs : List (Key × V)} {x : Str} {v w : V} (h : DG kvs x w) : (putK kvs (.inr x) v).length = kvs.length := by
  unfold putK
  rw [if_pos]
  · exact List.length_map _
  · unfold DG valV at h
    obtain ⟨p, hp, _⟩ := Option.map_eq_some_iff.mp h
    exact List.any_eq_true.mpr ⟨p, List.mem_of_find?_eq_some hp, by have := List.find?_some hp; exact this⟩
theorem ex_refl {S : List Str} {kvs : List (Key × V)} : Ex S kvs kvs := ⟨fun _ _ => rfl, fun _ h => h, fun _ => rfl⟩
theorem Ex.trans {S : List Str} {a b c : List (Key × V)} (h : Ex S a b) (g : Ex S b c) : Ex S a c := ⟨fun x n => (g.v x n).trans (h.v x n), fun x z => g.h x (h.h x z), fun z => (g.l fun x hx => h.h x (z x hx)).trans (h.l z)⟩
theorem Ex.mono {S T : List Str} {a b : List (Key × V)} (h : Ex S a b) (s : ∀ x ∈ S, x ∈ T) : Ex T a b := ⟨fun x n => h.v x fun z => n (s x z), h.h, fun z => h.l fun x hx => z x (s x hx)⟩
theorem Has.put {kvs : List (Key × V)} {x y : Str} {v : V} (h : Has kvs y) : Has (putK kvs (.inr x) v) y := by
  by_cases e : (y == x) = true
  · rw [eq_of_beq e]; exact ⟨v, dg_same⟩
  · obtain ⟨w, hw⟩ := h
    exact ⟨w, dg_ne (by simpa using e) hw⟩
theorem Ex.put {S : List Str} {a b : List (Key × V)} {x : Str} {v : V} (h : Ex S a b) (m : x ∈ S) : Ex S a (putK b (.inr x) v) := by
  refine ⟨fun y n => ?_, fun y z => (h.h y z).put, fun z => ?_⟩
  · rw [valV_put_ne (fun z => n (by injection z with z; rw [z]; exact m))]
    exact h.v y n
  · obtain ⟨w, hw⟩ := h.h x (z x m)
    rw [put_len hw]; exact h.l z
theorem Ex.dg {S : List Str} {a b : List (Key × V)} {x : Str} {v : V} (h : Ex S a b) (g : DG a x v) (n : x ∉ S) : DG b x v := (h.v x n).trans g
theorem dl_put {kvs : List (Key × V)} {k : Key} {v : V} {n : Nat} (h : kvs.length + 1 < n) : (putK kvs k v).length < n := Nat.lt_of_le_of_lt (length_putK kvs k v) h
theorem dl_put' {kvs : List (Key × V)} {k : Key} {v : V} {n m : Nat} (h : kvs.length + (m + 1) < n) : (putK kvs k v).length + m < n := by have := length_putK kvs k v; omega
section
variable {σ : L2.St} {H : Hp} {K : PySem.W.Frag} {Q : VK} {a : Addr} {x : Str} {v : V} {kvs : List (Key × V)} {td ty tv : TE} {D : Ends}
theorem z_dget (q : td σ H fun x H1 => ty σ H1 fun y H2 => ∃ a v, x = .ref a ∧ DGet H2 a y (some v) ∧ Q v H2) : tDGet td ty σ H Q := q
theorem z_dget1 {c : V → Prop} (h : H a = some (.dK kvs)) (l : DG kvs x v) (q : c v) : ∃ a' v', V.ref a = .ref a' ∧ DGet H a' (.str x) (some v') ∧ c v' := ⟨a, v, rfl, by
  have := DGet.k (k := .inr x) h
  rw [show valV kvs (.inr x) = some v from l] at this
  exact this, q⟩
theorem z_dput (q : tv σ H fun v H1 => td σ H1 fun x H2 => ty σ H2 fun y H3 => ∃ a H4, x = .ref a ∧ DPut H3 a y v H4 ∧ D.nx σ H4) : sDPut td ty tv D σ H := q
theorem z_dput1 {c : Hp → Prop} (h : H a = some (.dK kvs)) (l : kvs.length < sizeLine) (q : c (upd H a (.dK (putK kvs (.inr x) v)))) : ∃ a' H4, V.ref a = .ref a' ∧ DPut H a' (.str x) v H4 ∧ c H4 := ⟨a, _, rfl, DPut.k (k := .inr x) h l, q⟩
theorem z_disp {trs : List (TE × TE)} (q : ∀ p, H p = none → tPairs trs σ (upd H p (.dK [])) fun ps H2 => H2 p = some (.dK []) ∧ ∃ kvs : List (Key × V), ps = kvs.map (fun kv => (kV kv.1, kv.2)) ∧ kvs.length ≤ 15 ∧ Q (.ref p) (upd H2 p (.dK (mergeK [] kvs)))) : tDisp trs σ H Q := q
theorem z_pcons {tk tv : TE} {r : List (TE × TE)} {c : List (V × V) → Hp → Prop} (q : tk σ H fun x H1 => tv σ H1 fun y H2 => tPairs r σ H2 fun ps H3 => c ((x, y) :: ps) H3) : tPairs ((tk, tv) :: r) σ H c := q
theorem z_pnil {c : List (V × V) → Hp → Prop} (q : c [] H) : tPairs [] σ H c := q
end
/-! ### signs and texts of a line -/
/-- whether a sign may stand in a line, by its code -/
def okc (c : Nat) : Bool := decide (32 ≤ c) && (decide (c < 127) && !decide (c = 37))
theorem okc_lt {c : Nat} (h : okc c = true) : c < 128 := by
  unfold okc at h
  simp at h; omega
def isSign (s : Str) : Bool := match tl s with
  | [c] => okc c
  | _ => false
/-- a line's text: its signs may stand there -/
def okText (s : Str) : Bool := decide (s.length ≤ 400) && (tl s).all okc
theorem plain_ok {x : Str} (h : okText x = true) : plainS x = true := by
  unfold okText at h
  rw [Bool.and_eq_true] at h
  unfold plainS
  rw [List.all_eq_true]
  exact fun c hc => decide_eq_true (okc_lt (List.all_eq_true.mp h.2 c hc))
/-- what is refused of a change -/
def chk (L : LineS) (f l : Int) (new : Str) : Option Str :=
  if LineS.place L.now f then (if LineS.place L.now l then (if okText new then (if L.len - (l - f) + new.length > 400 then some "BadText" else none) else some "BadText") else some "BadPlace") else some "BadPlace"
theorem okText_app {x y : Str} (hx : okText x = true) (hy : okText y = true) (hl : x.length + y.length ≤ 400) : okText (x ++ y) = true := by
  unfold okText at *
  rw [Bool.and_eq_true] at *
  refine ⟨decide_eq_true (by rw [len_app]; exact hl), ?_⟩
  rw [tl_app, List.all_append, hx.2, hy.2]; rfl

/-! ### data, all of it plain -/
def Sh (n : Nat) (d : PyData) : Prop := d.canLay0 = true ∧ d.depth ≤ n
theorem lay_all : ∀ {ds : List PyData}, (∀ d ∈ ds, d.canLay0 = true) → PyData.canLayAll0 ds = true
  | [], _ => by simp only [PyData.canLayAll0]
  | d :: r, h => by simp only [PyData.canLayAll0, h d (by simp), lay_all (ds := r) fun x hx => h x (List.mem_cons_of_mem _ hx), Bool.and_self]
theorem dep_all {n : Nat} : ∀ {ds : List PyData}, (∀ d ∈ ds, d.depth ≤ n) → PyData.depthAll ds ≤ n
  | [], _ => by simp only [PyData.depthAll]; omega
  | d :: r, h => by
    have h1 := h d (by simp)
    have h2 := dep_all (ds := r) fun x hx => h x (List.mem_cons_of_mem _ hx)
    simp only [PyData.depthAll]; omega
theorem Sh.lst {n : Nat} {ds : List PyData} (h : ∀ d ∈ ds, Sh n d) : Sh (n + 1) (.list ds) := ⟨by simp only [PyData.canLay0]; exact lay_all fun d hd => (h d hd).1, by have := dep_all fun d hd => (h d hd).2; simp only [PyData.depth]; omega⟩
theorem Sh.tup {n : Nat} {ds : List PyData} (h : ∀ d ∈ ds, Sh n d) : Sh (n + 1) (.tuple ds) := ⟨by simp only [PyData.canLay0]; exact lay_all fun d hd => (h d hd).1, by have := dep_all fun d hd => (h d hd).2; simp only [PyData.depth]; omega⟩
theorem Sh.str {x : Str} (h : plainS x = true) : Sh 0 (.str x) := ⟨by simp only [PyData.canLay0]; exact strOk_plain h, by simp only [PyData.depth]; omega⟩
theorem Sh.int {i : Int} : Sh 0 (.int i) := ⟨by simp only [PyData.canLay0], by simp only [PyData.depth]; omega⟩
theorem Sh.bl {i : Bool} : Sh 0 (.bool i) := ⟨by simp only [PyData.canLay0], by simp only [PyData.depth]; omega⟩
theorem Sh.non : Sh 0 .none := ⟨by simp only [PyData.canLay0], by simp only [PyData.depth]; omega⟩
theorem Sh.mono {n m : Nat} {d : PyData} (h : Sh n d) (k : n ≤ m) : Sh m d := ⟨h.1, Nat.le_trans h.2 k⟩
theorem Sh.ok {n : Nat} {d : PyData} (h : Sh n d) (k : n ≤ 64 := by decide) : SeqAt.shaped d = true := by
  unfold SeqAt.shaped
  rw [h.1, Bool.true_and]
  exact decide_eq_true (Nat.le_trans h.2 k)
/-- all items of a list of data -/
def Shs (n : Nat) (ds : List PyData) : Prop := ∀ d ∈ ds, Sh n d
theorem shs_nil {n : Nat} : Shs n [] := fun _ h => nomatch h
theorem Shs.cons {n : Nat} {d : PyData} {ds : List PyData} (h : Sh n d) (t : Shs n ds) : Shs n (d :: ds) := fun x hx => by
  rcases List.mem_cons.mp hx with rfl | z
  · exact h
  · exact t x z
theorem eqv_int {i j : Int} : PyData.eqv (.int i) (.int j) = decide (i = j) := by
  simp only [PyData.eqv]; by_cases h : i = j <;> simp [h]
theorem eqv_str {i j : Str} : PyData.eqv (.str i) (.str j) = decide (i = j) := by
  simp only [PyData.eqv]; by_cases h : i = j <;> simp [h]
theorem eqv_lst {xs ys : List PyData} : PyData.eqv (.list xs) (.list ys) = PyData.eqvAll xs ys := by simp only [PyData.eqv]
theorem eqv_tup {xs ys : List PyData} : PyData.eqv (.tuple xs) (.tuple ys) = PyData.eqvAll xs ys := by simp only [PyData.eqv]
theorem eqvAll_nil {xs : List PyData} : PyData.eqvAll xs [] = xs.isEmpty := by cases xs <;> simp [PyData.eqvAll]
/-! pictures as data -/
def picD (P : Pic) : PyData := .tuple [.str P.txt, .int P.at_, .int P.mrk]
def picsD (ps : List Pic) : PyData := .list (ps.map picD)
section
variable {K : PySem.W.Frag} {H : Hp} {r l : Addr} {P : Pic} {ps : List Pic}
theorem dp_pic (h : PicAt H r P) : Dp K H (.ref r) (picD P) := .tup (SqT.of h) (.cons (.str _) (.cons (.int _) (.cons (.int _) .nil)))
theorem dpAll_pics {rs : List Addr} (h : Paired (PicAt H) rs ps) : DpAll K H (rs.map V.ref) (ps.map picD) := by
  induction h with
  | nil => exact .nil
  | cons a _ ih => exact .cons (dp_pic a) ih
theorem dp_pics (h : PicsAt H l ps) : Dp K H (.ref l) (picsD ps) := let ⟨_, a, b⟩ := h; .lst (SqL.of a) (dpAll_pics b)
theorem sh_pic (h : plainS P.txt = true) : Sh 1 (picD P) := .tup (Shs.cons (.str h) (.cons .int (.cons .int shs_nil)))
theorem sh_pics (h : ∀ P ∈ ps, plainS P.txt = true) : Sh 2 (picsD ps) := .lst fun d hd => by
  obtain ⟨P, hP, rfl⟩ := List.mem_map.mp hd
  exact sh_pic (h P hP)
theorem eqv_pics_nil : PyData.eqv (picsD ps) (.list []) = ps.isEmpty := by
  unfold picsD
  rw [eqv_lst, eqvAll_nil]
  cases ps <;> rfl
end
/-- a picture that may be -/
def Pic.Ok (m : Nat) (P : Pic) : Prop := okText P.txt = true ∧ P.txt.length ≤ m ∧ LineS.place P.txt P.at_ ∧ LineS.place P.txt P.mrk
structure LineS.Ok (L : LineS) (m : Nat) : Prop where
  pic : L.pic.Ok m
  bs : ∀ P ∈ L.before, P.Ok m
  ls : ∀ P ∈ L.later, P.Ok m
namespace LineS
variable {L : LineS} {m : Nat}
theorem Ok.len (h : L.Ok m) : L.now.length ≤ m := h.pic.2.1
theorem Ok.text (h : L.Ok m) : okText L.now = true := h.pic.1
theorem Ok.l400 (h : L.Ok m) : L.now.length ≤ 400 := by
  have := h.pic.1
  unfold okText at this
  exact of_decide_eq_true (Bool.and_eq_true_iff.mp this).1
theorem Ok.caret (h : L.Ok m) : place L.now L.caret := h.pic.2.2.1
theorem Ok.mark (h : L.Ok m) : place L.now L.mark := h.pic.2.2.2
theorem Pic.Ok.mono {P : Pic} {m m' : Nat} (h : P.Ok m) (k : m ≤ m') : P.Ok m' := ⟨h.1, Nat.le_trans h.2.1 k, h.2.2⟩
theorem Ok.mono {m' : Nat} (h : L.Ok m) (k : m ≤ m') : L.Ok m' := ⟨Pic.Ok.mono h.pic k, fun P hP => Pic.Ok.mono (h.bs P hP) k, fun P hP => Pic.Ok.mono (h.ls P hP) k⟩
theorem ok_fresh {x : Str} (h : okText x = true) (k : x.length ≤ m) : (fresh x).Ok m := ⟨⟨h, k, ⟨Int.natCast_nonneg _, Int.le_refl _⟩, ⟨Int.le_refl _, Int.natCast_nonneg _⟩⟩, (fun _ h => nomatch h), (fun _ h => nomatch h)⟩
theorem Ok.go (h : L.Ok m) {a : Int} (k : place L.now a) : (L.go a).Ok m := ⟨⟨h.pic.1, h.pic.2.1, k, h.pic.2.2.2⟩, h.bs, h.ls⟩
theorem Ok.putMark (h : L.Ok m) {a : Int} (k : place L.now a) : (L.putMark a).Ok m := ⟨⟨h.pic.1, h.pic.2.1, h.pic.2.2.1, k⟩, h.bs, h.ls⟩
theorem Ok.rest (h : L.Ok m) : L.rest.Ok m := ⟨h.pic, h.bs, h.ls⟩
theorem Ok.show_ (h : L.Ok m) {P : Pic} (k : P.Ok m) : (L.show_ P).Ok m := ⟨k, h.bs, h.ls⟩
theorem len_spliced {x new : Str} {f l : Int} (h0 : 0 ≤ f) (h1 : f ≤ l) (h2 : l ≤ x.length) : ((spliced x f l new).length : Int) = x.length - (l - f) + new.length := by
  unfold spliced
  rw [len_S]
  have := len_tl x
  have := len_tl new
  simp only [List.length_append, List.length_take, List.length_drop]
  omega
theorem ok_spliced {x new : Str} {f l : Int} (h : okText x = true) (hn : okText new = true) (hl : (spliced x f l new).length ≤ 400) : okText (spliced x f l new) = true := by
  unfold okText at *
  rw [Bool.and_eq_true] at *
  refine ⟨decide_eq_true hl, ?_⟩
  unfold spliced
  rw [tl_S, List.all_append, List.all_append, hn.2, Bool.and_true, Bool.and_eq_true]
  refine ⟨List.all_eq_true.mpr fun c hc => List.all_eq_true.mp h.2 c (List.mem_of_mem_take hc), List.all_eq_true.mpr fun c hc => List.all_eq_true.mp h.2 c (List.mem_of_mem_drop hc)⟩
theorem place_newMark {x new : Str} {m f l : Int} (h : place x m) (h0 : 0 ≤ f) (h1 : f ≤ l) (h2 : l ≤ x.length) : place (spliced x f l new) (newMark m f l new.length) := by
  unfold place at *
  rw [len_spliced h0 h1 h2]
  unfold newMark
  split
  · omega
  · split <;> omega
/-- a change within the line, the caret within what is left -/
theorem Ok.replace (h : L.Ok m) {f l c : Int} {new : Str} {m' : Nat} (h0 : 0 ≤ f) (h1 : f ≤ l) (h2 : l ≤ L.now.length) (hn : okText new = true) (hl : (L.now.length : Int) - (l - f) + new.length ≤ 400) (hm : (L.now.length : Int) - (l - f) + new.length ≤ m') (mm : m ≤ m') (c0 : 0 ≤ c) (c1 : c ≤ L.now.length - (l - f) + new.length) : (L.replace f l new c).Ok m' := by
  have e := len_spliced (new := new) h0 h1 h2
  exact ⟨⟨ok_spliced h.pic.1 hn (by omega), by show (spliced _ _ _ _).length ≤ m'; omega, ⟨c0, by show c ≤ (spliced _ _ _ _).length; omega⟩, place_newMark h.pic.2.2.2 h0 h1 h2⟩, fun P hP => Pic.Ok.mono (h.bs P hP) mm, fun P hP => Pic.Ok.mono (h.ls P hP) mm⟩
theorem Ok.push (h : L.Ok m) {r : Int} : ({ L with before := L.before ++ [L.pic], later := [], run := r } : LineS).Ok m := ⟨h.pic, fun P hP => by
  rcases List.mem_append.mp hP with z | z
  · exact h.bs P z
  · rw [List.mem_singleton.mp z]; exact h.pic, fun _ h => nomatch h⟩
theorem Ok.unlater (h : L.Ok m) {r : Int} : ({ L with later := [], run := r } : LineS).Ok m := ⟨h.pic, h.bs, fun _ h => nomatch h⟩
theorem Ok.change (h : L.Ok m) {f l c : Int} {new : Str} {m' : Nat} (h0 : 0 ≤ f) (h1 : f ≤ l) (h2 : l ≤ L.now.length) (hn : okText new = true) (hl : (L.now.length : Int) - (l - f) + new.length ≤ 400) (hm : (L.now.length : Int) - (l - f) + new.length ≤ m') (mm : m ≤ m') (c0 : 0 ≤ c) (c1 : c ≤ L.now.length - (l - f) + new.length) : (L.change f l new c).Ok m' := Ok.replace (L := { L with before := L.before ++ [L.pic], later := [], run := 0 }) h.push h0 h1 h2 hn hl hm mm c0 c1
theorem Ok.write (h : L.Ok m) {x : Str} {m' : Nat} (hn : okText x = true) (hl : L.now.length + x.length ≤ 400) (hm : L.now.length + x.length ≤ m') (mm : m ≤ m') : (L.write x).Ok m' := by
  have c := h.caret
  unfold place at c
  unfold LineS.write
  split
  · exact Ok.replace (L := { L with before := L.before ++ [L.pic], later := [], run := 1 }) h.push c.1 (Int.le_refl _) c.2 hn (by show (L.now.length : Int) - _ + _ ≤ _; omega) (by show (L.now.length : Int) - _ + _ ≤ _; omega) mm (by omega) (by show _ ≤ (L.now.length : Int) - _ + _; omega)
  · exact Ok.replace (L := { L with later := [], run := L.run + 1 }) h.unlater c.1 (Int.le_refl _) c.2 hn (by show (L.now.length : Int) - _ + _ ≤ _; omega) (by show (L.now.length : Int) - _ + _ ≤ _; omega) mm (by omega) (by show _ ≤ (L.now.length : Int) - _ + _; omega)
theorem Ok.undo (h : L.Ok m) : L.undo.2.Ok m := by
  unfold LineS.undo
  split
  · exact h.rest
  · rename_i P q
    obtain ⟨ps, e⟩ := List.getLast?_eq_some_iff.mp q
    refine ⟨h.bs P (by rw [e]; simp), fun P hP => h.bs P ((List.dropLast_sublist _).subset hP), fun P hP => ?_⟩
    rcases List.mem_append.mp hP with z | z
    · exact h.ls P z
    · rw [List.mem_singleton.mp z]; exact h.pic
theorem Ok.redo (h : L.Ok m) : L.redo.2.Ok m := by
  unfold LineS.redo
  split
  · exact h.rest
  · rename_i P q
    obtain ⟨ps, e⟩ := List.getLast?_eq_some_iff.mp q
    refine ⟨h.ls P (by rw [e]; simp), fun P hP => ?_, fun P hP => h.ls P ((List.dropLast_sublist _).subset hP)⟩
    rcases List.mem_append.mp hP with z | z
    · exact h.bs P z
    · rw [List.mem_singleton.mp z]; exact h.pic
theorem Ok.pb (h : L.Ok m) : ∀ P ∈ L.before, plainS P.txt = true := fun P hP => plain_ok (h.bs P hP).1
theorem Ok.pl (h : L.Ok m) : ∀ P ∈ L.later, plainS P.txt = true := fun P hP => plain_ok (h.ls P hP).1
end LineS
/-- a new tuple ("refused", w) is told -/
def RefQ (H : Hp) (Q : VK) (w : Str) : Prop := ∀ t H', H t = none → Same H H' → H' t = some (.tup [.str "refused", .str w]) → Q (.ref t) H'
theorem RefQ.same {H H1 : Hp} {Q : VK} {w : Str} (h : RefQ H Q w) (s : Same H H1) : RefQ H1 Q w := fun t H' ht s' e => h t H' (fresh_of s ht) (s.trans s') e
/-! ### what is writable -/
inductive Wr (H : Hp) (b : Addr) : Prop
  | lst {xs : List V} : H b = some (.lst xs) → Wr H b
  | ins {C dx : Addr} {fs : List (Str × V)} : H b = some (.ins C dx fs) → Wr H b
  | dK {kvs : List (Key × V)} : H b = some (.dK kvs) → Wr H b
  | non : H b = none → Wr H b
theorem Wr.mu {H : Hp} {b : Addr} (h : Wr H b) : Mu H b := by
  cases h with
  | lst e => exact Mu.lst e
  | ins e => exact Mu.ins e
  | dK e => exact Mu.dK e
  | non e => exact Mu.non e
theorem Wr.nt {H : Hp} {b : Addr} (h : Wr H b) : ∀ xs, H b ≠ some (.tup xs) := by
  cases h with
  | lst e => exact nt_lst e
  | ins e => exact nt_ins e
  | dK e => exact nt_dK e
  | non e => exact nt_non e
def Wrs (H : Hp) (S : List Addr) : Prop := ∀ b ∈ S, Wr H b
theorem wrs_nil {H : Hp} : Wrs H [] := fun _ h => nomatch h
theorem Wrs.cons {H : Hp} {S : List Addr} {b : Addr} (h : Wr H b) (t : Wrs H S) : Wrs H (b :: S) := fun c hc => by
  rcases List.mem_cons.mp hc with rfl | z
  · exact h
  · exact t c z
theorem Wrs.mu {H : Hp} {S : List Addr} (h : Wrs H S) : ∀ b ∈ S, Mu H b := fun b hb => (h b hb).mu
theorem Wrs.nt {H : Hp} {S : List Addr} (h : Wrs H S) : Nt H S := fun b hb => (h b hb).nt
theorem Wrs.app {H : Hp} {S T : List Addr} (h : Wrs H S) (g : Wrs H T) : Wrs H (S ++ T) := fun b hb => (List.mem_append.mp hb).elim (h b) (g b)
theorem LineAt.wr {K : PySem.W.Frag} {H : Hp} {p lb ll : Addr} {L : LineS} (R : LineAt K H p lb ll L) : Wrs H [p, lb, ll] := by
  obtain ⟨⟨dx, e⟩, ⟨_, e1, _⟩, ⟨_, e2, _⟩, _⟩ := R
  exact .cons (.ins e) (.cons (.lst e1) (.cons (.lst e2) wrs_nil))
/-- what every law has: its script, and the town of draws -/
structure Bs (K : PySem.W.Frag) (H : Hp) (a t : Addr) (ns : List Int) (n : Nat) : Prop where
  scr : Scr K H a ns
  tw : ∃ zs, H t = some (.lst zs) ∧ zs.length ≤ n
section
variable {K : PySem.W.Frag} {H H' : Hp} {a t : Addr} {ns : List Int} {n : Nat} {S : List Addr}
theorem Bs.fr (B : Bs K H a t ns n) (f : Fr S H H') (w : Wrs H S) (h : t ∉ S) : Bs K H' a t ns n := ⟨B.scr.fr f w.mu, let ⟨zs, e, z⟩ := B.tw; ⟨zs, f _ _ e h, z⟩⟩
theorem Bs.same (B : Bs K H a t ns n) (f : Same H H') : Bs K H' a t ns n := B.fr (S := []) (Fr.same f) wrs_nil (by simp)
theorem Bs.mono {n' : Nat} (B : Bs K H a t ns n) (h : n ≤ n') : Bs K H a t ns n' := ⟨B.scr, let ⟨zs, e, z⟩ := B.tw; ⟨zs, e, by omega⟩⟩
theorem Bs.wr (B : Bs K H a t ns n) : Wr H t := let ⟨_, e, _⟩ := B.tw; .lst e
theorem Bs.wrs (B : Bs K H a t ns n) : Wrs H [t] := .cons B.wr wrs_nil
end
/-! ### a law's own line: a dict -/
def stK : List Str := ["now", "before", "later", "run"]
structure StAt (H : Hp) (d sb sl : Addr) (kvs : List (Key × V)) (M : LineS) : Prop where
  ob : H d = some (.dK kvs)
  len : kvs.length ≤ 100
  now : ∃ r, DG kvs "now" (.ref r) ∧ PicAt H r M.pic
  kb : DG kvs "before" (.ref sb)
  kl : DG kvs "later" (.ref sl)
  kr : DG kvs "run" (.int M.run)
  bs : PicsAt H sb M.before
  ls : PicsAt H sl M.later
  ne : sb ≠ sl
section
variable {H H' : Hp} {d sb sl : Addr} {kvs : List (Key × V)} {M : LineS} {S : List Addr}
theorem StAt.fr (R : StAt H d sb sl kvs M) (f : Fr S H H') (n : Nt H S) (h1 : d ∉ S) (h2 : sb ∉ S) (h3 : sl ∉ S) : StAt H' d sb sl kvs M :=
  ⟨f _ _ R.ob h1, R.len, let ⟨r, a, b⟩ := R.now; ⟨r, a, b.fr f n⟩, R.kb, R.kl, R.kr, R.bs.fr f n h2, R.ls.fr f n h3, R.ne⟩
theorem StAt.same (R : StAt H d sb sl kvs M) (f : Same H H') : StAt H' d sb sl kvs M := R.fr (S := []) (Fr.same f) nt_nil (by simp) (by simp) (by simp)
theorem StAt.nes (R : StAt H d sb sl kvs M) : d ≠ sb ∧ d ≠ sl := by
  obtain ⟨_, e1, _⟩ := R.bs
  obtain ⟨_, e2, _⟩ := R.ls
  exact ⟨ne_of R.ob e1 (by intro z; cases z), ne_of R.ob e2 (by intro z; cases z)⟩
theorem StAt.wr (R : StAt H d sb sl kvs M) : Wrs H [d, sb, sl] := by
  obtain ⟨_, e1, _⟩ := R.bs
  obtain ⟨_, e2, _⟩ := R.ls
  exact .cons (.dK R.ob) (.cons (.lst e1) (.cons (.lst e2) wrs_nil))
end
/-! ### what stands apart -/
def Ap (X Y : List Addr) : Prop := ∀ x ∈ X, x ∉ Y
def Alive (H : Hp) (Y : List Addr) : Prop := ∀ y ∈ Y, H y ≠ none
/-- some of these, or new -/
def Nw (H : Hp) (X X' : List Addr) : Prop := ∀ x ∈ X', x ∈ X ∨ H x = none
theorem Ap.symm {X Y : List Addr} (h : Ap X Y) : Ap Y X := fun y hy z => h y z hy
theorem Ap.new {H : Hp} {X X' Y : List Addr} (h : Ap X Y) (g : Nw H X X') (l : Alive H Y) : Ap X' Y := fun x hx hy => by
  rcases g x hx with z | z
  · exact h x z hy
  · exact l x hy z
theorem Ap.sub {X X' Y : List Addr} (h : Ap X Y) (g : ∀ x ∈ X', x ∈ X) : Ap X' Y := fun x hx hy => h x (g x hx) hy
theorem nw_refl {H : Hp} {X : List Addr} : Nw H X X := fun _ h => .inl h
theorem nw_nil {H : Hp} {X : List Addr} : Nw H X [] := fun _ h => nomatch h
theorem Nw.old {H : Hp} {X X' : List Addr} {x : Addr} (t : Nw H X X') (h : x ∈ X) : Nw H X (x :: X') := fun y hy => by
  rcases List.mem_cons.mp hy with rfl | z
  · exact .inl h
  · exact t y z
theorem Nw.new {H : Hp} {X X' : List Addr} {x : Addr} (t : Nw H X X') (h : H x = none) : Nw H X (x :: X') := fun y hy => by
  rcases List.mem_cons.mp hy with rfl | z
  · exact .inr h
  · exact t y z
theorem Nw.or {H : Hp} {X X' : List Addr} {x y : Addr} (t : Nw H X X') (h : x = y ∨ H x = none) (m : y ∈ X) : Nw H X (x :: X') := by
  rcases h with rfl | h
  · exact t.old m
  · exact t.new h
theorem Nw.same {H H0 : Hp} {X X' : List Addr} (t : Nw H X X') (s : Same H0 H) : Nw H0 X X' := fun y hy => (t y hy).elim .inl fun z => .inr (fresh_of s z)
theorem Fr.free {S : List Addr} {H H' : Hp} (f : Fr S H H') {b : Addr} (e : H' b = none) (n : b ∉ S) : H b = none := by
  cases q : H b with
  | none => rfl
  | some o => rw [f b o q n] at e; cases e
theorem Nw.trans {H H' : Hp} {X X' X'' : List Addr} (t : Nw H X X') (u : Nw H' X' X'') (f : Fr X H H') : Nw H X X'' := fun y hy => by
  rcases u y hy with z | z
  · exact t y z
  · by_cases m : y ∈ X
    · exact .inl m
    · exact .inr (f.free z m)
theorem Alive.app {H : Hp} {X Y : List Addr} (h : Alive H X) (g : Alive H Y) : Alive H (X ++ Y) := fun y hy => (List.mem_append.mp hy).elim (h y) (g y)
theorem Alive.fr {H H' : Hp} {X S : List Addr} (h : Alive H X) (f : Fr S H H') (n : Ap X S) : Alive H' X := fun y hy => by
  cases q : H y with
  | none => exact absurd q (h y hy)
  | some o => rw [f y o q (n y hy)]; simp
theorem Wrs.fr {H H' : Hp} {X S : List Addr} (h : Wrs H X) (l : Alive H X) (f : Fr S H H') (n : Ap X S) : Wrs H' X := fun y hy => by
  cases h y hy with
  | lst e => exact .lst (f _ _ e (n y hy))
  | ins e => exact .ins (f _ _ e (n y hy))
  | dK e => exact .dK (f _ _ e (n y hy))
  | non e => exact absurd e (l y hy)
theorem LineAt.alive {K : PySem.W.Frag} {H : Hp} {p lb ll : Addr} {L : LineS} (R : LineAt K H p lb ll L) : Alive H [p, lb, ll] := by
  obtain ⟨⟨dx, e⟩, ⟨_, e1, _⟩, ⟨_, e2, _⟩, _⟩ := R
  intro y hy
  simp only [List.mem_cons, List.not_mem_nil, or_false] at hy
  rcases hy with rfl | rfl | rfl
  · rw [e]; simp
  · rw [e1]; simp
  · rw [e2]; simp
theorem StAt.alive {H : Hp} {d sb sl : Addr} {kvs : List (Key × V)} {M : LineS} (R : StAt H d sb sl kvs M) : Alive H [d, sb, sl] := by
  obtain ⟨_, e1, _⟩ := R.bs
  obtain ⟨_, e2, _⟩ := R.ls
  intro y hy
  simp only [List.mem_cons, List.not_mem_nil, or_false] at hy
  rcases hy with rfl | rfl | rfl
  · rw [R.ob]; simp
  · rw [e1]; simp
  · rw [e2]; simp
theorem LineAt.ap {K : PySem.W.Frag} {H H' : Hp} {p lb ll : Addr} {L : LineS} {S : List Addr} (R : LineAt K H p lb ll L) (f : Fr S H H') (w : Wrs H S) (n : Ap [p, lb, ll] S) : LineAt K H' p lb ll L := R.fr f w.nt (n p (by simp)) (n lb (by simp)) (n ll (by simp))
theorem StAt.ap {H H' : Hp} {d sb sl : Addr} {kvs : List (Key × V)} {M : LineS} {S : List Addr} (R : StAt H d sb sl kvs M) (f : Fr S H H') (w : Wrs H S) (n : Ap [d, sb, sl] S) : StAt H' d sb sl kvs M := R.fr f w.nt (n d (by simp)) (n sb (by simp)) (n sl (by simp))
/-- the script and the town, the program's objects at X, the law's at Y, all apart -/
structure Wd (K : PySem.W.Frag) (H : Hp) (a t : Addr) (ns : List Int) (n : Nat) (X Y : List Addr) : Prop where
  bs : Bs K H a t ns n
  tx : t ∉ X
  ty : t ∉ Y
  xy : Ap X Y
section
variable {K : PySem.W.Frag} {H H' : Hp} {a t : Addr} {ns : List Int} {n : Nat} {X Y X' Y' : List Addr}
theorem Bs.alive (B : Bs K H a t ns n) : Alive H [t] := by
  obtain ⟨_, e, _⟩ := B.tw
  intro y hy
  rw [List.mem_singleton.mp hy, e]; simp
theorem ap1 (h : t ∉ X) : Ap X [t] := fun x hx hy => h (List.mem_singleton.mp hy ▸ hx)
theorem Wd.same (W : Wd K H a t ns n X Y) (s : Same H H') : Wd K H' a t ns n X Y := ⟨W.bs.same s, W.tx, W.ty, W.xy⟩
theorem Wd.draw {n' : Nat} (W : Wd K H a t ns n X Y) (B : Bs K H' a t ns n') : Wd K H' a t ns n' X Y := ⟨B, W.tx, W.ty, W.xy⟩
theorem Wd.mono {n' : Nat} (W : Wd K H a t ns n X Y) (h : n ≤ n') : Wd K H a t ns n' X Y := ⟨W.bs.mono h, W.tx, W.ty, W.xy⟩
theorem Wd.x (W : Wd K H a t ns n X Y) (f : Fr X H H') (w : Wrs H X) (g : Nw H X X') (l : Alive H Y) : Wd K H' a t ns n X' Y :=
  ⟨W.bs.fr f w W.tx, fun z => (ap1 W.tx).new g W.bs.alive t z (by simp), W.ty, W.xy.new g l⟩
theorem Wd.y (W : Wd K H a t ns n X Y) (f : Fr Y H H') (w : Wrs H Y) (g : Nw H Y Y') (l : Alive H X) : Wd K H' a t ns n X Y' :=
  ⟨W.bs.fr f w W.ty, W.tx, fun z => (ap1 W.ty).new g W.bs.alive t z (by simp), (W.xy.symm.new g l).symm⟩
end
/-! ### the law's own line is changed -/
section
variable {H H' : Hp} {d sb sl r b : Addr} {kvs : List (Key × V)} {M : LineS} {P : Pic} {ps : List Pic}
theorem StAt.putRun (R : StAt H d sb sl kvs M) (i : Int) : StAt (upd H d (.dK (putK kvs (.inr "run") (.int i)))) d sb sl (putK kvs (.inr "run") (.int i)) { M with run := i } := by
  obtain ⟨ho, hlen, ⟨r, hr, hp⟩, kb, kl, kr, hb, hll, hne⟩ := id R
  have f : Fr [d] H (upd H d (.dK (putK kvs (.inr "run") (.int i)))) := Fr.upd Fr.refl (by simp)
  have nt : Nt H [d] := .cons (nt_dK ho) nt_nil
  exact ⟨upd_same, by rw [put_len kr]; exact hlen, ⟨r, dg_ne rfl hr, hp.fr f nt⟩, dg_ne rfl kb, dg_ne rfl kl, dg_same, hb.fr f nt (not_mem1 R.nes.1.symm), hll.fr f nt (not_mem1 R.nes.2.symm), hne⟩
theorem StAt.putNow (R : StAt H d sb sl kvs M) (hP : PicAt H r P) : StAt (upd H d (.dK (putK kvs (.inr "now") (.ref r)))) d sb sl (putK kvs (.inr "now") (.ref r)) { M with now := P.txt, caret := P.at_, mark := P.mrk } := by
  obtain ⟨ho, hlen, ⟨r0, hr, hp⟩, kb, kl, kr, hb, hll, hne⟩ := id R
  have f : Fr [d] H (upd H d (.dK (putK kvs (.inr "now") (.ref r)))) := Fr.upd Fr.refl (by simp)
  have nt : Nt H [d] := .cons (nt_dK ho) nt_nil
  exact ⟨upd_same, by rw [put_len hr]; exact hlen, ⟨r, dg_same, hP.fr f nt⟩, dg_ne rfl kb, dg_ne rfl kl, dg_ne rfl kr, hb.fr f nt (not_mem1 R.nes.1.symm), hll.fr f nt (not_mem1 R.nes.2.symm), hne⟩
theorem StAt.putBefore (R : StAt H d sb sl kvs M) (hP : PicsAt H b ps) (hd : d ≠ b) (hl : b ≠ sl) : StAt (upd H d (.dK (putK kvs (.inr "before") (.ref b)))) d b sl (putK kvs (.inr "before") (.ref b)) { M with before := ps } := by
  obtain ⟨ho, hlen, ⟨r0, hr, hp⟩, kb, kl, kr, hb, hll, hne⟩ := id R
  have f : Fr [d] H (upd H d (.dK (putK kvs (.inr "before") (.ref b)))) := Fr.upd Fr.refl (by simp)
  have nt : Nt H [d] := .cons (nt_dK ho) nt_nil
  exact ⟨upd_same, by rw [put_len kb]; exact hlen, ⟨r0, dg_ne rfl hr, hp.fr f nt⟩, dg_same, dg_ne rfl kl, dg_ne rfl kr, hP.fr f nt (not_mem1 hd.symm), hll.fr f nt (not_mem1 R.nes.2.symm), hl⟩
theorem StAt.putLater (R : StAt H d sb sl kvs M) (hP : PicsAt H b ps) (hd : d ≠ b) (hl : sb ≠ b) : StAt (upd H d (.dK (putK kvs (.inr "later") (.ref b)))) d sb b (putK kvs (.inr "later") (.ref b)) { M with later := ps } := by
  obtain ⟨ho, hlen, ⟨r0, hr, hp⟩, kb, kl, kr, hb, hll, hne⟩ := id R
  have f : Fr [d] H (upd H d (.dK (putK kvs (.inr "later") (.ref b)))) := Fr.upd Fr.refl (by simp)
  have nt : Nt H [d] := .cons (nt_dK ho) nt_nil
  exact ⟨upd_same, by rw [put_len kl]; exact hlen, ⟨r0, dg_ne rfl hr, hp.fr f nt⟩, dg_ne rfl kb, dg_same, dg_ne rfl kr, hb.fr f nt (not_mem1 R.nes.1.symm), hP.fr f nt (not_mem1 hd.symm), hl⟩
theorem StAt.push {rs : List Addr} (R : StAt H d sb sl kvs M) (hn : DG kvs "now" (.ref r)) (e : H sb = some (.lst (rs.map V.ref))) : StAt (upd H sb (.lst (rs.map V.ref ++ [.ref r]))) d sb sl kvs { M with before := M.before ++ [M.pic] } := by
  obtain ⟨ho, hlen, ⟨r0, hr, hp⟩, kb, kl, kr, ⟨rs', e', hb⟩, hll, hne⟩ := id R
  have er : r0 = r := by
    have := hr.symm.trans hn
    injection this with this; injection this
  subst er
  have ers : rs.map V.ref = rs'.map V.ref := by rw [e] at e'; injection e' with e'; injection e'
  rw [ers] at e ⊢
  have f : Fr [sb] H (upd H sb (.lst (rs'.map V.ref ++ [.ref r0]))) := Fr.upd Fr.refl (by simp)
  have nt : Nt H [sb] := .cons (nt_lst e) nt_nil
  exact ⟨f _ _ ho (not_mem1 R.nes.1), hlen, ⟨r0, hr, hp.fr f nt⟩, kb, kl, kr, ⟨rs' ++ [r0], by rw [upd_same, List.map_append]; rfl, paired_snoc (pics_fr hb f nt) (hp.fr f nt)⟩, hll.fr f nt (not_mem1 hne.symm), hne⟩
end
namespace LineS
variable {L : LineS} {m b : Nat}
theorem write_len {x : Str} : (L.write x).before.length ≤ L.before.length + 1 ∧ (L.write x).later.length = 0 := by
  unfold LineS.write
  split
  · exact ⟨by simp [replace], rfl⟩
  · exact ⟨by simp [replace], rfl⟩
theorem change_len {x : Str} {f l c : Int} : (L.change f l x c).before.length ≤ L.before.length + 1 ∧ (L.change f l x c).later.length = 0 := ⟨by simp [change, replace], rfl⟩
theorem undo_len : L.undo.2.before.length ≤ L.before.length ∧ L.undo.2.later.length ≤ L.later.length + 1 := by
  unfold LineS.undo
  split
  · exact ⟨Nat.le_refl _, Nat.le_succ _⟩
  · exact ⟨by simp, by simp⟩
theorem redo_len : L.redo.2.before.length ≤ L.before.length + 1 ∧ L.redo.2.later.length ≤ L.later.length := by
  unfold LineS.redo
  split
  · exact ⟨Nat.le_succ _, Nat.le_refl _⟩
  · exact ⟨by simp, by simp⟩
end LineS
theorem chk_none {L : LineS} {f l : Int} {x : Str} (h1 : LineS.place L.now f) (h2 : LineS.place L.now l) (h3 : okText x = true) (h4 : (L.now.length : Int) - (l - f) + x.length ≤ 400) : chk L f l x = none := by
  unfold chk
  rw [if_pos h1, if_pos h2, if_pos h3, if_neg]
  show ¬ (L.now.length : Int) - (l - f) + x.length > 400
  omega
/-! ### lookups behind writes -/
theorem upd_new {H : Hp} {p q : Addr} {o o' : HO} (hf : H q = none) (h : H p = some o) : upd H q o' p = some o := by rw [upd_ne (ne_of_none h hf)]; exact h
def hk : HO → Nat
  | .lst _ => 0
  | .tup _ => 1
  | .ins _ _ _ => 2
  | .dK _ => 3
  | _ => 4
theorem upd_kd {H : Hp} {p q : Addr} {o o' : HO} (hq : ∃ o2, H q = some o2 ∧ Nat.beq (hk o) (hk o2) = false) (h : H p = some o) : upd H q o' p = some o := by
  obtain ⟨o2, hq, n⟩ := hq
  rw [upd_ne (fun z => by subst z; rw [h] at hq; cases hq; rw [Nat.beq_refl] at n; cases n)]; exact h
section
variable {K : PySem.W.Frag} {H H1 : Hp} {Q : VK} {σ : L2.St} {te : TE} {vs : List Nat} {D : Addr} {Qd : Hp → Prop}
theorem lc_refPair {a : Addr} {xs : List V} {i j : Nat} {w : Str} (hL : H1 a = some (.lst xs)) (hn : xs.length < 1000) (hw : ∀ u v, wipe (((wipe σ vs).set i (some u)).set j (some v)) vs = wipe σ vs) (hD : H1 D = none)
    (he : ∀ x ∈ xs, ∃ (r : Addr) (u v : V), x = .ref r ∧ H1 r = some (.tup [u, v]) ∧ RefGo te (((wipe σ vs).set i (some u)).set j (some v)) w H1) (hd : ∀ H', RefEnd H1 D xs.length w H' → Qd H') : LcGo (Itl K a) (gTup K 2 (gCons (gName i) (gCons (gName j) gNil))) tYes te vs σ D H1 Qd := by
  refine lg_list (K := K) (xs := xs) (fun i H2 => RefEnd H1 D i w H2) ⟨Same.own (Same.refl _) hD, [], upd_same, rfl, by simp⟩ (fun i H2 _ p => SqL.of (p.1 _ _ hL)) ?_ hd
  intro n x H2 hx p
  obtain ⟨r, u, v, rfl, hr, go⟩ := he x (List.mem_of_getElem? hx)
  refine z_gtup (SqT.of (p.1 _ _ hr)) rfl (z_gcons (z_gname (z_gcons (z_gname (z_gnil ?_)))))
  exact ⟨hw _ _, z_yes (iteT (ref_turn hn (List.getElem?_eq_some_iff.mp hx).1 hD p go))⟩
end
section
variable {K : PySem.W.Frag} {H1 H8 : Hp} {Q : VK} {σ : L2.St} {D : Addr} {n : Nat} {w : Str}
theorem refs_all {r : V → V → Hp → VK → Prop} (e : RefEnd H1 D n w H8) (hn : n ≤ 100) (hw : plainS w = true) (k : ∀ (y : V) (H9 : Hp), Same H8 H9 → Dp K H9 (.ref D) (refsD n w) → Dp K H9 y (refsD n w) → SeqAt.shaped (refsD n w) = true → r (.ref D) y H9 Q) :
    tOp rRep (tLst (tCons (tTup (tCons (tC (.str "refused")) (tCons (tC (.str w)) tNil))) tNil)) (tC (.int (n : Nat))) σ H8 (fun y H2 => r (.ref D) y H2 Q) := by
  obtain ⟨s8, rs, hrs, hrl, hrr⟩ := e
  refine z_op (z_lst (z_cons (z_tup (z_cons (z_c (z_cons (z_c (z_nil ⟨by rw [sizeLine_eq]; show 2 ≤ _; decide, fun c1 hc1 => z_nil ⟨by rw [sizeLine_eq]; show 1 ≤ _; decide, fun c2 hc2 => z_c ?_⟩⟩))))))))
  refine z_rep upd_same (by omega) (by omega) (by rw [sizeLine_eq]; show 1 * ((n : Int)).toNat ≤ _; omega) fun c3 hc3 => ?_
  have nc21 := (un_fresh hc2).1
  have nc31 := (un_fresh (un_fresh hc3).2).1
  have sc3 := Same.new (Same.new (Same.new (Same.refl H8) hc1 (o := .tup [.str "refused", .str w])) hc2 (o := .lst [.ref c1])) hc3 (o := .lst (List.replicate (n : Int).toNat [V.ref c1]).flatten)
  exact k _ _ sc3 (dp_refs (sc3 _ _ hrs) hrl fun r hr => sc3 _ _ (hrr r hr)) (dp_rep n upd_same (by rw [upd_ne nc31.symm, upd_ne nc21.symm, upd_same])) (shaped_refs hw n)
theorem z_refsNe (e : RefEnd H1 D n w H8) (hn : n ≤ 100) (hw : plainS w = true) (k : ∀ H9, Same H8 H9 → Q (.bl false) H9) : tOp rRep (tLst (tCons (tTup (tCons (tC (.str "refused")) (tCons (tC (.str w)) tNil))) tNil)) (tC (.int (n : Nat))) σ H8 (fun y H2 => rNeD K (.ref D) y H2 Q) :=
  refs_all (K := K) (r := rNeD K) e hn hw fun y H9 s a b c => z_neS a b c (k H9 s)
theorem z_refsEq (e : RefEnd H1 D n w H8) (hn : n ≤ 100) (hw : plainS w = true) (k : ∀ H9, Same H8 H9 → Q (.bl true) H9) : tOp rRep (tLst (tCons (tTup (tCons (tC (.str "refused")) (tCons (tC (.str w)) tNil))) tNil)) (tC (.int (n : Nat))) σ H8 (fun y H2 => rEqD K (.ref D) y H2 Q) :=
  refs_all (K := K) (r := rEqD K) e hn hw fun y H9 s a b c => z_eqS a b c (k H9 s)
end
theorem chk_p1 {L : LineS} {f l : Int} {x : Str} (h : ¬ LineS.place L.now f) : chk L f l x = some (Str.ofString "BadPlace") := by unfold chk; rw [if_neg h]
theorem chk_p2 {L : LineS} {f l : Int} {x : Str} (h1 : LineS.place L.now f) (h : ¬ LineS.place L.now l) : chk L f l x = some (Str.ofString "BadPlace") := by unfold chk; rw [if_pos h1, if_neg h]
theorem chk_t1 {L : LineS} {f l : Int} {x : Str} (h1 : LineS.place L.now f) (h2 : LineS.place L.now l) (h : okText x = false) : chk L f l x = some (Str.ofString "BadText") := by unfold chk; rw [if_pos h1, if_pos h2, if_neg (by rw [h]; decide)]
theorem chk_t2 {L : LineS} {f l : Int} {x : Str} (h1 : LineS.place L.now f) (h2 : LineS.place L.now l) (h : (L.now.length : Int) - (l - f) + x.length > 400) : chk L f l x = some (Str.ofString "BadText") := by
  unfold chk
  rw [if_pos h1, if_pos h2]
  split
  · rw [if_pos (show L.len - (l - f) + x.length > 400 from h)]
  · rfl

/-! ### a list, the last first -/
theorem pe_revLK {X : Cx} {K : PySem.W.Frag} {e : Expr} {te : TE} {k : Nat} {p1 p2 p3 pos : Pos} (h : X.K = K) (he : PE X e te) : PE X (.Subscript e (.Slice none none (some (.UnaryOp .USub (.Constant (.int 1) k p1) p2)) p3) pos) (tRevL K te) := h ▸ pe_revL he
theorem z_revL {σ : L2.St} {H : Hp} {Q : VK} {K : PySem.W.Frag} {te : TE} (q : te σ H fun x H1 => ∃ a xs, x = .ref a ∧ SqL K H1 a xs ∧ ∀ p, H1 p = none → Q (.ref p) (upd H1 p (.lst xs.reverse))) : tRevL K te σ H Q := q
theorem z_revL1 {H : Hp} {K : PySem.W.Frag} {a : Addr} {xs : List V} {P : List V → Prop} (h : SqL K H a xs) (q : P xs) : ∃ a' xs', V.ref a = .ref a' ∧ SqL K H a' xs' ∧ P xs' := ⟨a, xs, rfl, h, q⟩
theorem z_notV {σ : L2.St} {H : Hp} {Q : VK} {ta : TE} (q : ta σ H fun x H1 => ∃ c, x = .bl c ∧ Q (.bl (!c)) H1) : tNotV ta σ H Q := q
theorem min_ite {i j : Int} : (if j < i then j else i) = min i j := by omega
theorem max_ite {i j : Int} : (if j > i then j else i) = max i j := by omega
theorem z_ifCS {σ : L2.St} {H : Hp} {Q : VK} {b : Bool} {s1 s2 : Str} (q : Q (.str (if b = true then s1 else s2)) H) : if b = true then tC (.str s1) σ H Q else tC (.str s2) σ H Q := by
  cases b <;> exact q
namespace LineS
theorem spliced_end {x new : Str} {n : Int} (h : n = x.length) : spliced x n n new = x ++ new := by
  apply str_ext
  unfold spliced
  have := len_tl x
  rw [tl_S, tl_app, List.take_of_length_le (by omega), List.drop_of_length_le (by omega), List.append_nil]
theorem spliced_start {x new : Str} : spliced x 0 0 new = new ++ x := by
  apply str_ext
  unfold spliced
  rw [tl_S, tl_app]; rfl
end LineS
theorem drop_last_app {x : Str} {c : Nat} : S ((tl (x ++ (⟨#[c]⟩ : Str))).dropLast) = x := by
  apply str_ext
  rw [tl_S, tl_app]
  show (tl x ++ [c]).dropLast = _
  simp
/-! ### methods of texts, by names -/
section
variable {X : Cx} {K : PySem.W.Frag} {H : Hp} {Q : VK} {a b : Str} {i j : Int} {p : Addr}
def rJoin (K : PySem.W.Frag) : V → List V → Hp → VK → Prop := fun x xs H Q => ∃ a p, ∃ ys : List Str, x = .str a ∧ xs = [.ref p] ∧ (SqL K H p (ys.map V.str) ∨ SqT K H p (ys.map V.str)) ∧ (ys.map (·.length)).sum + ys.length * a.length ≤ 16777216 ∧ Q (.str (Txt.join a ys)) H
theorem mt_joinK (h : X.K = K) : MtR X "str.join" (rJoin K) := h ▸ mt_join
theorem z_join {ys : List Str} (h : SqL K H p (ys.map V.str)) (hl : (ys.map (·.length)).sum + ys.length * a.length ≤ 16777216) (q : Q (.str (Txt.join a ys)) H) : rJoin K (.str a) [.ref p] H Q := ⟨a, p, ys, rfl, rfl, .inl h, hl, q⟩
def rUpper : V → List V → Hp → VK → Prop := fun x xs H Q => ∃ a, x = .str a ∧ xs = [] ∧ a.length ≤ 5592405 ∧ Q (.str (Txt.upper a)) H
theorem mt_upperN : MtR X "str.upper" rUpper := mt_upper
theorem z_upper (hl : a.length ≤ 5592405) (q : Q (.str (Txt.upper a)) H) : rUpper (.str a) [] H Q := ⟨a, rfl, rfl, hl, q⟩
def rLower : V → List V → Hp → VK → Prop := fun x xs H Q => ∃ a, x = .str a ∧ xs = [] ∧ a.length ≤ 5592405 ∧ Q (.str (Txt.lower a)) H
theorem mt_lowerN : MtR X "str.lower" rLower := mt_lower
theorem z_lower (hl : a.length ≤ 5592405) (q : Q (.str (Txt.lower a)) H) : rLower (.str a) [] H Q := ⟨a, rfl, rfl, hl, q⟩
def rIsalpha : V → List V → Hp → VK → Prop := fun x xs H Q => ∃ a, x = .str a ∧ xs = [] ∧ True ∧ Q (.bl (Txt.isalpha a)) H
theorem mt_isalphaN : MtR X "str.isalpha" rIsalpha := mt_isalpha
theorem z_isalpha (q : Q (.bl (Txt.isalpha a)) H) : rIsalpha (.str a) [] H Q := ⟨a, rfl, rfl, trivial, q⟩
def rStarts : V → List V → Hp → VK → Prop := fun x xs H Q => ∃ a b, x = .str a ∧ xs = [.str b] ∧ Q (.bl (Txt.startswith a b)) H
theorem mt_startsN : MtR X "str.startswith" rStarts := mt_startswith
theorem z_starts (q : Q (.bl (Txt.startswith a b)) H) : rStarts (.str a) [.str b] H Q := ⟨a, b, rfl, rfl, q⟩
def rFind : V → List V → Hp → VK → Prop := fun x xs H Q => ∃ a b, x = .str a ∧ xs = [.str b] ∧ Q (.int (Txt.find a b)) H
theorem mt_findN : MtR X "str.find" rFind := mt_find
theorem z_find (q : Q (.int (Txt.find a b)) H) : rFind (.str a) [.str b] H Q := ⟨a, b, rfl, rfl, q⟩
def rFind3 : V → List V → Hp → VK → Prop := fun x xs H Q => ∃ (a b : Str) (i : Int), x = .str a ∧ xs = [.str b, .int i] ∧ Q (.int (Txt.find3 a b i)) H
theorem mt_find3N : MtR X "str.find" rFind3 := mt_find3
theorem z_find3 (q : Q (.int (Txt.find3 a b i)) H) : rFind3 (.str a) [.str b, .int i] H Q := ⟨a, b, i, rfl, rfl, q⟩
def rRfind4 : V → List V → Hp → VK → Prop := fun x xs H Q => ∃ (a b : Str) (i j : Int), x = .str a ∧ xs = [.str b, .int i, .int j] ∧ Q (.int (Txt.rfindIn a b i j)) H
theorem mt_rfind4N : MtR X "str.rfind" rRfind4 := mt_rfind4
theorem z_rfind4 (q : Q (.int (Txt.rfindIn a b i j)) H) : rRfind4 (.str a) [.str b, .int i, .int j] H Q := ⟨a, b, i, j, rfl, rfl, q⟩
def rInt1 : List V → Hp → VK → Prop := fun xs H Q => (∃ i, xs = [.int i] ∧ Q (.int i) H) ∨ ∃ k, xs = [.bl k] ∧ Q (.int (if k then 1 else 0)) H
theorem call_int1N : CallR X (.type "int") rInt1 := call_int1
theorem z_int1b {k : Bool} (q : Q (.int (if k then 1 else 0)) H) : rInt1 [.bl k] H Q := .inr ⟨k, rfl, q⟩
def rIntStr : List V → Hp → VK → Prop := fun xs H Q => ∃ a n, xs = [.str a] ∧ PySem.intText? a = some n ∧ a.length ≤ 640 ∧ Q (.int n) H
theorem call_int_strN : CallR X (.type "int") rIntStr := call_int_str
theorem z_intStr {n : Int} (h : PySem.intText? a = some n) (hl : a.length ≤ 640) (q : Q (.int n) H) : rIntStr [.str a] H Q := ⟨a, n, rfl, h, hl, q⟩
end
theorem tl_join : ∀ (ys : List Str), tl (Txt.join "" ys) = ys.flatMap tl
  | [] => rfl
  | [y] => by simp [Txt.join, Builtin.Str.glued]
  | y :: z :: r => by
    have h := tl_join (z :: r)
    unfold Txt.join at h ⊢
    rw [StrLaws.glued_eq_join] at h ⊢
    show tl (y ++ "" ++ Str.join "" (z :: r)) = _
    rw [tl_app, tl_app, h, show tl "" = [] from rfl, List.append_nil]
    simp
theorem tl_blanks (n : Int) : tl (Txt.mul " " n) = List.replicate n.toNat 32 := mul_one_list 32 n
/-! ### windows -/
def winF (w f : Int) : List (Str × V) := [("width", .int w), ("first", .int f)]
def WinAt (K : PySem.W.Frag) (H : Hp) (p : Addr) (w f : Int) : Prop := ∃ dx, H p = some (.ins (He.ga K "Window") dx (winF w f))
theorem WinAt.same {K : PySem.W.Frag} {H H' : Hp} {p : Addr} {w f : Int} (R : WinAt K H p w f) (h : Same H H') : WinAt K H' p w f := let ⟨dx, e⟩ := R; ⟨dx, h _ _ e⟩
/-- the first place shown, of a long text -/
def winFirst (w f n a : Int) : Int := max (a - (w - 2) + 1) (min (min f (n + 1 - (w - 2))) a)
def winPart (w g : Int) (x : Str) : List Nat := ((tl x).drop g.toNat).take (w - 2).toNat
def winShown (w g : Int) (x : Str) : Str := S ((if g > 0 then 60 else 32) :: (winPart w g x ++ List.replicate ((w - 2).toNat - (winPart w g x).length) 32 ++ [if g + (w - 2) < x.length then 62 else 32]))
/-- what is shown, its column, the first place -/
def winView (w f : Int) (x : Str) (a : Int) : Str × Int × Int :=
  if (x.length : Int) < w then (x, a, 0) else (winShown w (winFirst w f x.length a) x, a - winFirst w f x.length a + 1, winFirst w f x.length a)
theorem winFirst_ok {w f n a : Int} (hw : 4 ≤ w) (hf : 0 ≤ f) (hn : w ≤ n) (ha : 0 ≤ a) (hn2 : a ≤ n) : 0 ≤ winFirst w f n a ∧ winFirst w f n a ≤ a ∧ a < winFirst w f n a + (w - 2) := by
  unfold winFirst; omega
theorem winView_first {w f : Int} {x : Str} {a : Int} (hw : 4 ≤ w) (hf : 0 ≤ f) (ha : LineS.place x a) : 0 ≤ (winView w f x a).2.2 := by
  unfold winView
  split
  · exact Int.le_refl _
  · exact (winFirst_ok hw hf (by omega) ha.1 ha.2).1
theorem len_winShown {w g : Int} {x : Str} (hw : 4 ≤ w) : ((winShown w g x).length : Int) = w := by
  unfold winShown winPart
  rw [len_S]
  simp only [List.length_cons, List.length_append, List.length_replicate, List.length_nil, List.length_take, List.length_drop]
  omega
/-- the caret's sign is at its column -/
theorem winView_sign {w f : Int} {x : Str} {a : Int} (hw : 4 ≤ w) (hf : 0 ≤ f) (ha : 0 ≤ a) (hl : a < x.length) : ∃ c, (tl x)[a.toNat]? = some c ∧ 0 ≤ (winView w f x a).2.1 ∧ (tl (winView w f x a).1)[(winView w f x a).2.1.toNat]? = some c := by
  have e := len_tl x
  obtain ⟨c, hc⟩ : ∃ c, (tl x)[a.toNat]? = some c := ⟨_, List.getElem?_eq_getElem (by omega)⟩
  refine ⟨c, hc, ?_⟩
  unfold winView
  split
  · exact ⟨ha, hc⟩
  · obtain ⟨h1, h2, h3⟩ := winFirst_ok (w := w) (f := f) (n := x.length) (a := a) hw hf (by omega) ha (by omega)
    generalize winFirst w f x.length a = g at *
    refine ⟨by show 0 ≤ a - g + 1; omega, ?_⟩
    show (tl (winShown w g x))[(a - g + 1).toNat]? = _
    unfold winShown
    rw [tl_S, show (a - g + 1).toNat = (a - g).toNat + 1 by omega, List.getElem?_cons_succ, List.append_assoc]
    have hp : (a - g).toNat < (winPart w g x).length := by unfold winPart; rw [List.length_take, List.length_drop]; omega
    rw [List.getElem?_append_left hp]
    unfold winPart
    rw [List.getElem?_take_of_lt (by omega), List.getElem?_drop, show g.toNat + (a - g).toNat = a.toNat by omega]
    exact hc
theorem winView_len {w f : Int} {x : Str} {a : Int} (hw : 4 ≤ w) : ((winView w f x a).1.length : Int) ≤ w := by
  unfold winView
  split
  · show (x.length : Int) ≤ w; omega
  · exact Int.le_of_eq (len_winShown hw)
theorem winView_plain {w f : Int} {x : Str} {a : Int} (h : plainS x = true) : plainS (winView w f x a).1 = true := by
  unfold winView
  split
  · exact h
  · show plainS (winShown _ _ _) = true
    unfold winShown plainS winPart at *
    rw [tl_S, List.all_cons, Bool.and_eq_true]
    refine ⟨by split <;> rfl, ?_⟩
    rw [List.all_append, List.all_append, Bool.and_eq_true, Bool.and_eq_true]
    refine ⟨⟨?_, ?_⟩, by split <;> rfl⟩
    · rw [List.all_eq_true] at h ⊢
      exact fun c hc => h c (List.mem_of_mem_drop (List.mem_of_mem_take hc))
    · rw [List.all_eq_true]
      intro c hc
      rw [List.eq_of_mem_replicate hc]; rfl

/-! ### letters and words -/
def isL (c : Nat) : Bool := (decide (97 ≤ c) && decide (c ≤ 122)) || ((decide (65 ≤ c) && decide (c ≤ 90)) || (decide (48 ≤ c) && decide (c ≤ 57)))
/-- whether a letter or a figure stands at a place -/
def letAt (l : List Nat) (i : Int) : Bool := decide (0 ≤ i) && (l[i.toNat]?).any isL
def upc (c : Nat) : Nat := if 97 ≤ c ∧ c ≤ 122 then c - 32 else c
def loc (c : Nat) : Nat := if 65 ≤ c ∧ c ≤ 90 then c + 32 else c
theorem isL_in (c : Nat) (h : c < 128) : (!(Builtin.Str.occurrences "abcdefghijklmnopqrstuvwxyzABCDEFGHIJKLMNOPQRSTUVWXYZ0123456789" ⟨#[c]⟩ 0 (Str.length "abcdefghijklmnopqrstuvwxyzABCDEFGHIJKLMNOPQRSTUVWXYZ0123456789") 1).isEmpty) = isL c := by
  have h' : ∀ c : Fin 128, (!(Builtin.Str.occurrences "abcdefghijklmnopqrstuvwxyzABCDEFGHIJKLMNOPQRSTUVWXYZ0123456789" ⟨#[c.1]⟩ 0 (Str.length "abcdefghijklmnopqrstuvwxyzABCDEFGHIJKLMNOPQRSTUVWXYZ0123456789") 1).isEmpty) = isL c.1 := by decide +kernel
  exact h' ⟨c, h⟩
theorem isL_alpha (c : Nat) (h : c < 128) : (Txt.isalpha ⟨#[c]⟩ || !(Builtin.Str.occurrences "0123456789" ⟨#[c]⟩ 0 (Str.length "0123456789") 1).isEmpty) = isL c := by
  have h' : ∀ c : Fin 128, (Txt.isalpha ⟨#[c.1]⟩ || !(Builtin.Str.occurrences "0123456789" ⟨#[c.1]⟩ 0 (Str.length "0123456789") 1).isEmpty) = isL c.1 := by decide +kernel
  exact h' ⟨c, h⟩
theorem up1 (c : Nat) (h : c < 128) : Unicode.upperOf c = [upc c] := by
  have h' : ∀ c : Fin 128, Unicode.upperOf c.1 = [upc c.1] := by decide +kernel
  exact h' ⟨c, h⟩
theorem lo1 (c : Nat) (h : c < 128) : Unicode.lowerOf c = [loc c] := by
  have h' : ∀ c : Fin 128, Unicode.lowerOf c.1 = [loc c.1] := by decide +kernel
  exact h' ⟨c, h⟩
theorem mapIdx_flat {f : Nat → Nat → List Nat} {g : Nat → Nat} : ∀ (l : List Nat) (k : Nat), (∀ i c, l[i]? = some c → f (k + i) c = [g c]) → ((l.mapIdx fun i c => f (k + i) c).flatten) = l.map g
  | [], _, _ => rfl
  | c :: r, k, h => by
    rw [List.mapIdx_cons, List.flatten_cons, List.map_cons]
    have h0 : f (k + 0) c = [g c] := h 0 c rfl
    have ih := mapIdx_flat (f := f) (g := g) r (k + 1) fun i d hd => by
      have := h (i + 1) d (by simpa using hd)
      rw [← this]; congr 1; omega
    rw [h0]
    have e : (r.mapIdx fun i c => f (k + (i + 1)) c) = r.mapIdx fun i c => f (k + 1 + i) c := by
      congr 1; funext i c; congr 1; omega
    rw [e, ih]; rfl
theorem placed_map {x : Str} {f : Nat → Nat → List Nat} {g : Nat → Nat} (h : ∀ i c, (tl x)[i]? = some c → f i c = [g c]) : tl ⟨placed x f⟩ = (tl x).map g := by
  have := mapIdx_flat (f := f) (g := g) (tl x) 0 fun i c hc => by rw [Nat.zero_add]; exact h i c hc
  rw [← this]
  show (placed x f).toList = _
  unfold placed tl
  rw [Array.toList_flatten, Array.toList_mapIdx]
  congr 1
  apply List.ext_getElem?
  intro i
  simp
  rfl
theorem tl_upper {x : Str} (h : plainS x = true) : tl (Txt.upper x) = (tl x).map upc := by
  refine placed_map fun i c hc => up1 c ?_
  unfold plainS at h
  exact of_decide_eq_true (List.all_eq_true.mp h c (List.mem_of_getElem? hc))
theorem tl_lower {x : Str} (h : plainS x = true) : tl (Txt.lower x) = (tl x).map loc := by
  refine placed_map fun i c hc => ?_
  have hc' : x.cps[i]? = some c := by unfold tl at hc; rw [Array.getElem?_toList] at hc; exact hc
  unfold plainS at h
  have hl := of_decide_eq_true (List.all_eq_true.mp h c (List.mem_of_getElem? hc))
  unfold Unicode.lowerAt
  rw [hc']
  show (if (c == 0x3A3 && Unicode.endsWord x.cps i) = true then [0x3C2] else Unicode.lowerOf c) = _
  rw [if_neg, lo1 c hl]
  have : (c == 0x3A3) = false := beq_eq_false_iff_ne.mpr (by omega)
  rw [this]; exact Bool.false_ne_true
theorem upc_ok {c : Nat} (h : isL c = true) : okc (upc c) = true ∧ okc (loc c) = true := by
  unfold isL at h
  have hc : c < 128 := by simp at h; omega
  have h' : ∀ c : Fin 128, isL c.1 = true → okc (upc c.1) = true ∧ okc (loc c.1) = true := by decide +kernel
  exact h' ⟨c, hc⟩ h
theorem letAt_neg {l : List Nat} {i : Int} (h : i < 0) : letAt l i = false := by unfold letAt; rw [decide_eq_false (by omega)]; rfl
theorem letAt_big {l : List Nat} {i : Int} (h : (l.length : Int) ≤ i) : letAt l i = false := by
  unfold letAt; rw [List.getElem?_eq_none (by omega)]; simp
theorem letAt_nat {l : List Nat} {i : Nat} : letAt l (i : Nat) = (l[i]?).any isL := by unfold letAt; rw [decide_eq_true (by omega)]; simp
theorem in_get {l : List Nat} {a : Int} (h0 : 0 ≤ a) (h1 : a < l.length) : ∃ c, l[a.toNat]? = some c ∧ atI l a = some c := by
  obtain ⟨n, rfl⟩ := Int.eq_ofNat_of_zero_le h0
  have hn : n < l.length := by omega
  exact ⟨l[n], by simp [hn], atI_nat (List.getElem?_eq_getElem hn)⟩
theorem letAt_of {l : List Nat} {a : Int} {c : Nat} (h0 : 0 ≤ a) (h : l[a.toNat]? = some c) : letAt l a = isL c := by
  unfold letAt; rw [h, decide_eq_true h0]; rfl
/-- over all that is no letter -/
def wBeg (l : List Nat) (a : Nat) : Nat := a + ((l.drop a).takeWhile fun c => !isL c).length
def wRun (l : List Nat) (a : Nat) : Nat := a + ((l.drop a).takeWhile isL).length
/-- the end of the word from a place on -/
def wEnd (l : List Nat) (a : Nat) : Nat := wRun l (wBeg l a)
def bSkip (l : List Nat) : Nat → Nat
  | 0 => 0
  | n + 1 => if letAt l (n : Nat) then n + 1 else bSkip l n
def bRun (l : List Nat) : Nat → Nat
  | 0 => 0
  | n + 1 => if letAt l (n : Nat) then bRun l n else n + 1
/-- the beginning of the word back from a place -/
def wStart (l : List Nat) (a : Nat) : Nat := bRun l (bSkip l a)
theorem drop_step {l : List Nat} {a : Nat} {p : Nat → Bool} (h : (l[a]?).any p = true) : ((l.drop a).takeWhile p).length = ((l.drop (a + 1)).takeWhile p).length + 1 := by
  obtain ⟨c, h1, h2⟩ := (Option.any_eq_true _ _).mp h
  rw [List.getElem?_eq_some_iff] at h1
  obtain ⟨hl, h1⟩ := h1
  rw [List.drop_eq_getElem_cons hl, h1, List.takeWhile_cons, if_pos h2, List.length_cons]
theorem drop_stop {l : List Nat} {a : Nat} {p : Nat → Bool} (h : (l[a]?).any p = false) : ((l.drop a).takeWhile p).length = 0 := by
  by_cases hl : a < l.length
  · rw [List.getElem?_eq_getElem hl] at h
    rw [List.drop_eq_getElem_cons hl, List.takeWhile_cons, if_neg]
    · rfl
    · have h' : p l[a] = false := h
      rw [h']; exact Bool.false_ne_true
  · rw [List.drop_of_length_le (by omega)]; rfl
theorem wRun_step {l : List Nat} {a : Nat} (h : letAt l (a : Nat) = true) : wRun l (a + 1) = wRun l a := by
  rw [letAt_nat] at h
  unfold wRun; rw [drop_step h]; omega
theorem wRun_stop {l : List Nat} {a : Nat} (h : letAt l (a : Nat) = false) : wRun l a = a := by
  rw [letAt_nat] at h
  unfold wRun; rw [drop_stop h]; rfl
theorem not_any {l : List Nat} {a : Nat} (hl : a < l.length) : (l[a]?).any (fun c => !isL c) = !(l[a]?).any isL := by
  rw [List.getElem?_eq_getElem hl]; rfl
theorem wBeg_step {l : List Nat} {a : Nat} (hl : a < l.length) (h : letAt l (a : Nat) = false) : wBeg l (a + 1) = wBeg l a := by
  rw [letAt_nat] at h
  unfold wBeg; rw [drop_step (a := a) (by rw [not_any hl, h]; rfl)]; omega
theorem wBeg_let {l : List Nat} {a : Nat} (h : letAt l (a : Nat) = true) : wBeg l a = a := by
  have hl : a < l.length := by
    by_cases hl : a < l.length
    · exact hl
    · rw [letAt_big (by omega)] at h; cases h
  rw [letAt_nat] at h
  unfold wBeg; rw [drop_stop (by rw [not_any hl, h]; rfl)]; rfl
theorem wBeg_end {l : List Nat} {a : Nat} (h : l.length ≤ a) : wBeg l a = a := by unfold wBeg; rw [List.drop_of_length_le h]; rfl
theorem wBeg_le {l : List Nat} {a : Nat} (h : a ≤ l.length) : a ≤ wBeg l a ∧ wBeg l a ≤ l.length := by
  unfold wBeg
  have := (List.takeWhile_prefix (l := l.drop a) fun c => !isL c).length_le
  rw [List.length_drop] at this
  omega
theorem wRun_le {l : List Nat} {a : Nat} (h : a ≤ l.length) : a ≤ wRun l a ∧ wRun l a ≤ l.length := by
  unfold wRun
  have := (List.takeWhile_prefix (l := l.drop a) isL).length_le
  rw [List.length_drop] at this
  omega
theorem wEnd_le {l : List Nat} {a : Nat} (h : a ≤ l.length) : wBeg l a ≤ wEnd l a ∧ wEnd l a ≤ l.length := wRun_le (wBeg_le h).2
theorem wBeg_non {l : List Nat} {a : Nat} (h : a ≤ l.length) : ∀ j, a ≤ j → j < wBeg l a → letAt l (j : Nat) = false := by
  generalize hm : l.length - a = m
  induction m generalizing a with
  | zero =>
    intro j h1 h2
    rw [wBeg_end (by omega)] at h2
    omega
  | succ m ih =>
    intro j h1 h2
    cases q : letAt l (a : Nat) with
    | true => rw [wBeg_let q] at h2; omega
    | false =>
      rw [← wBeg_step (by omega) q] at h2
      by_cases e : j = a
      · rw [e]; exact q
      · exact ih (by omega) (by omega) j (by omega) h2
theorem wBeg_yes {l : List Nat} {a : Nat} (h : a ≤ l.length) (h2 : wBeg l a < l.length) : letAt l (wBeg l a : Nat) = true := by
  generalize hm : l.length - a = m
  induction m generalizing a with
  | zero => rw [wBeg_end (by omega)] at h2; omega
  | succ m ih =>
    cases q : letAt l (a : Nat) with
    | true => rw [wBeg_let q]; exact q
    | false =>
      rw [← wBeg_step (by omega) q] at h2 ⊢
      exact ih (by omega) h2 (by omega)
theorem wRun_yes {l : List Nat} {a : Nat} (h : a ≤ l.length) : ∀ j, a ≤ j → j < wRun l a → letAt l (j : Nat) = true := by
  generalize hm : l.length - a = m
  induction m generalizing a with
  | zero =>
    intro j h1 h2
    have := (wRun_le h).2
    omega
  | succ m ih =>
    intro j h1 h2
    cases q : letAt l (a : Nat) with
    | false => rw [wRun_stop q] at h2; omega
    | true =>
      rw [← wRun_step q] at h2
      by_cases e : j = a
      · rw [e]; exact q
      · exact ih (by omega) (by omega) j (by omega) h2
theorem wRun_non {l : List Nat} {a : Nat} (h : a ≤ l.length) : letAt l (wRun l a : Nat) = false := by
  generalize hm : l.length - a = m
  induction m generalizing a with
  | zero => exact letAt_big (by have := (wRun_le h).1; omega)
  | succ m ih =>
    cases q : letAt l (a : Nat) with
    | false => rw [wRun_stop q]; exact q
    | true => rw [← wRun_step q]; exact ih (by omega) (by omega)
/-- the word's end is the first place behind with a letter ahead and none at it, or the text's end -/
theorem wEnd_in {l : List Nat} {a : Nat} (h : a ≤ l.length) : wEnd l a = l.length ∨ (a < wEnd l a ∧ wEnd l a ≤ l.length ∧ letAt l ((wEnd l a : Nat) - 1 : Int) = true ∧ letAt l (wEnd l a : Nat) = false) := by
  obtain ⟨b1, b2⟩ := wBeg_le h
  obtain ⟨e1, e2⟩ := wEnd_le h
  by_cases q : wEnd l a = l.length
  · exact .inl q
  · have hs := wBeg_yes h (by omega)
    have hn : letAt l (wEnd l a : Nat) = false := wRun_non b2
    have hne : wBeg l a ≠ wEnd l a := fun z => by rw [z, hn] at hs; cases hs
    refine .inr ⟨by omega, e2, ?_, hn⟩
    rw [show ((wEnd l a : Nat) - 1 : Int) = ((wEnd l a - 1 : Nat) : Int) by omega]
    exact wRun_yes b2 _ (by omega) (by show _ < wEnd l a; omega)
theorem wEnd_min {l : List Nat} {a k : Nat} (h : a ≤ l.length) (hk : a < k) (h1 : letAt l ((k : Nat) - 1 : Int) = true) (h2 : letAt l (k : Nat) = false) : wEnd l a ≤ k := by
  obtain ⟨b1, b2⟩ := wBeg_le h
  rw [show ((k : Nat) - 1 : Int) = ((k - 1 : Nat) : Int) by omega] at h1
  by_cases q : wEnd l a ≤ k
  · exact q
  · exfalso
    have : ¬ k - 1 < wBeg l a := fun z => by rw [wBeg_non h (k - 1) (by omega) z] at h1; cases h1
    have := wRun_yes b2 k (by omega) (by show k < wEnd l a; omega)
    rw [h2] at this; cases this
theorem bSkip_le {l : List Nat} : ∀ {a : Nat}, bSkip l a ≤ a
  | 0 => Nat.le_refl _
  | n + 1 => by
    unfold bSkip; split
    · exact Nat.le_refl _
    · exact Nat.le_succ_of_le bSkip_le
theorem bRun_le {l : List Nat} : ∀ {a : Nat}, bRun l a ≤ a
  | 0 => Nat.le_refl _
  | n + 1 => by
    unfold bRun; split
    · exact Nat.le_succ_of_le bRun_le
    · exact Nat.le_refl _
theorem bSkip_non {l : List Nat} : ∀ {a j : Nat}, bSkip l a ≤ j → j < a → letAt l (j : Nat) = false
  | 0, j, _, h => by omega
  | n + 1, j, h1, h2 => by
    unfold bSkip at h1
    split at h1
    · omega
    · rename_i q
      by_cases e : j = n
      · rw [e]; simpa using q
      · exact bSkip_non h1 (by omega)
theorem bSkip_yes {l : List Nat} : ∀ {a : Nat}, 0 < bSkip l a → letAt l ((bSkip l a : Nat) - 1 : Int) = true
  | 0, h => by unfold bSkip at h; omega
  | n + 1, h => by
    unfold bSkip at h ⊢
    split
    · rename_i q
      rw [show ((n + 1 : Nat) - 1 : Int) = (n : Nat) by omega]; exact q
    · rename_i q
      rw [if_neg q] at h
      exact bSkip_yes h
theorem bRun_yes {l : List Nat} : ∀ {a j : Nat}, bRun l a ≤ j → j < a → letAt l (j : Nat) = true
  | 0, j, _, h => by omega
  | n + 1, j, h1, h2 => by
    unfold bRun at h1
    split at h1
    · rename_i q
      by_cases e : j = n
      · rw [e]; exact q
      · exact bRun_yes h1 (by omega)
    · omega
theorem bRun_non {l : List Nat} : ∀ {a : Nat}, letAt l ((bRun l a : Nat) - 1 : Int) = false
  | 0 => letAt_neg (by unfold bRun; omega)
  | n + 1 => by
    unfold bRun
    split
    · exact bRun_non
    · rename_i q
      rw [show ((n + 1 : Nat) - 1 : Int) = (n : Nat) by omega]; simpa using q
theorem wStart_le {l : List Nat} {a : Nat} : wStart l a ≤ a := Nat.le_trans bRun_le bSkip_le
/-- the word's start is the last place ahead with a letter at it and none ahead of it, or 0 -/
theorem wStart_in {l : List Nat} {a : Nat} : wStart l a = 0 ∨ (wStart l a < a ∧ letAt l (wStart l a : Nat) = true ∧ letAt l ((wStart l a : Nat) - 1 : Int) = false) := by
  by_cases q : wStart l a = 0
  · exact .inl q
  · have h1 : bRun l (bSkip l a) ≠ 0 := q
    have h2 := bRun_le (l := l) (a := bSkip l a)
    have h3 := bSkip_le (l := l) (a := a)
    have hy := bSkip_yes (l := l) (a := a) (by omega)
    have hn := bRun_non (l := l) (a := bSkip l a)
    have hne : bRun l (bSkip l a) ≠ bSkip l a := fun z => by rw [z, hy] at hn; cases hn
    exact .inr ⟨by show bRun l (bSkip l a) < a; omega, bRun_yes (Nat.le_refl _) (by show bRun l (bSkip l a) < _; omega), hn⟩
theorem wStart_max {l : List Nat} {a k : Nat} (hk : k < a) (h1 : letAt l (k : Nat) = true) (h2 : letAt l ((k : Nat) - 1 : Int) = false) : k ≤ wStart l a := by
  by_cases q : k ≤ wStart l a
  · exact q
  · exfalso
    have : k < bSkip l a := by
      by_cases z : k < bSkip l a
      · exact z
      · rw [bSkip_non (by omega) hk] at h1; cases h1
    have := bRun_yes (l := l) (a := bSkip l a) (j := k - 1) (by show wStart l a ≤ k - 1; omega) (by omega)
    rw [show ((k : Nat) - 1 : Int) = ((k - 1 : Nat) : Int) by omega, this] at h2
    cases h2
theorem bSkip_step {l : List Nat} {n : Nat} (h : letAt l (n : Nat) = false) : bSkip l (n + 1) = bSkip l n := by
  rw [bSkip, if_neg]; rw [h]; exact Bool.false_ne_true
theorem bSkip_let {l : List Nat} {n : Nat} (h : letAt l (n : Nat) = true) : bSkip l (n + 1) = n + 1 := by rw [bSkip, if_pos h]
theorem bRun_step {l : List Nat} {n : Nat} (h : letAt l (n : Nat) = true) : bRun l (n + 1) = bRun l n := by rw [bRun, if_pos h]
theorem bRun_stop {l : List Nat} {n : Nat} (h : letAt l ((n : Nat) - 1 : Int) = false) : bRun l n = n := by
  cases n with
  | zero => rfl
  | succ n =>
    rw [bRun, if_neg]
    rw [show ((n + 1 : Nat) - 1 : Int) = (n : Nat) by omega] at h
    rw [h]; exact Bool.false_ne_true
/-! ### recased -/
def cas (way : Str) (l : List Nat) : List Nat := if way = "great" then l.map upc else if way = "small" then l.map loc else (l.take 1).map upc ++ (l.drop 1).map loc
def recL (way : Str) (l : List Nat) (a : Nat) : List Nat := l.take (wBeg l a) ++ cas way ((l.drop (wBeg l a)).take (wEnd l a - wBeg l a)) ++ l.drop (wEnd l a)
theorem len_cas {way : Str} {l : List Nat} : (cas way l).length = l.length := by
  unfold cas
  split
  · simp
  · split
    · simp
    · simp; omega
theorem len_recL {way : Str} {l : List Nat} {a : Nat} (h : a ≤ l.length) : (recL way l a).length = l.length := by
  unfold recL
  have := wBeg_le h
  have := wEnd_le h
  rw [List.length_append, List.length_append, len_cas]
  simp only [List.length_take, List.length_drop]
  omega
theorem cas_at {way : Str} {l : List Nat} {k : Nat} : (cas way l)[k]? = (l[k]?).map fun c => if way = "great" ∨ (¬ way = "small" ∧ k = 0) then upc c else loc c := by
  unfold cas
  by_cases h1 : way = "great"
  · rw [if_pos h1, List.getElem?_map]; simp [h1]
  · rw [if_neg h1]
    by_cases h2 : way = "small"
    · rw [if_pos h2, List.getElem?_map]
      cases l[k]? with
      | none => rfl
      | some c => show some _ = some _; dsimp only; rw [if_neg]; rintro (z | z); exact h1 z; exact z.1 h2
    · rw [if_neg h2]
      cases l with
      | nil => simp
      | cons c r =>
        cases k with
        | zero => simp [h1, h2]
        | succ k => simp [h1]
theorem recL_at {way : Str} {l : List Nat} {a k : Nat} (h : a ≤ l.length) : (recL way l a)[k]? = (l[k]?).map fun c => if wBeg l a ≤ k ∧ k < wEnd l a then (if way = "great" ∨ (¬ way = "small" ∧ k = wBeg l a) then upc c else loc c) else c := by
  obtain ⟨b1, b2⟩ := wBeg_le h
  obtain ⟨e1, e2⟩ := wEnd_le h
  unfold recL
  generalize wBeg l a = s at *
  generalize wEnd l a = e at *
  have lt : (l.take s).length = s := by rw [List.length_take]; omega
  have lc : (cas way ((l.drop s).take (e - s))).length = e - s := by rw [len_cas, List.length_take, List.length_drop]; omega
  by_cases k1 : k < s
  · rw [List.append_assoc, List.getElem?_append_left (by omega), List.getElem?_take_of_lt k1]
    cases l[k]? with
    | none => rfl
    | some c => show some c = some _; dsimp only; rw [if_neg (by omega)]
  · by_cases k2 : k < e
    · rw [List.getElem?_append_left (by rw [List.length_append]; omega), List.getElem?_append_right (by omega), lt, cas_at, List.getElem?_take_of_lt (by omega), List.getElem?_drop, show s + (k - s) = k by omega]
      cases l[k]? with
      | none => rfl
      | some c =>
        show some _ = some _
        dsimp only
        rw [if_pos (show s ≤ k ∧ k < e by omega)]
        have : (k - s = 0) = (k = s) := by apply propext; omega
        simp only [this]
    · rw [List.getElem?_append_right (by rw [List.length_append]; omega), List.length_append, lt, lc, List.getElem?_drop, show e + (k - (s + (e - s))) = k by omega]
      cases l[k]? with
      | none => rfl
      | some c => show some c = some _; dsimp only; rw [if_neg (by omega)]
theorem any_of_let {l : List Nat} {k c : Nat} (h : letAt l (k : Nat) = true) (hc : l[k]? = some c) : isL c = true := by
  rw [letAt_nat, hc] at h; exact h
theorem recL_ok {way : Str} {l : List Nat} {a : Nat} (h : a ≤ l.length) (hl : l.all okc = true) : (recL way l a).all okc = true := by
  rw [List.all_eq_true] at hl ⊢
  intro c hc
  obtain ⟨k, hk⟩ := List.mem_iff_getElem?.mp hc
  rw [recL_at h] at hk
  cases q : l[k]? with
  | none => rw [q] at hk; cases hk
  | some d =>
    rw [q] at hk
    have hk' := Option.some.inj hk
    rw [← hk']
    split
    · rename_i g
      have := upc_ok (any_of_let (wRun_yes (wBeg_le h).2 k g.1 g.2) q)
      split
      · exact this.1
      · exact this.2
    · exact hl d (List.mem_of_getElem? q)
theorem plain_all {x : Str} (h : (tl x).all okc = true) : plainS x = true := by
  unfold plainS
  rw [List.all_eq_true] at h ⊢
  exact fun c hc => decide_eq_true (okc_lt (h c hc))
theorem okText_all {x : Str} (h : okText x = true) : (tl x).all okc = true := by
  unfold okText at h
  exact (Bool.and_eq_true_iff.mp h).2
theorem okText_len {x : Str} (h : okText x = true) : x.length ≤ 400 := by
  unfold okText at h
  exact of_decide_eq_true (Bool.and_eq_true_iff.mp h).1
theorem okText_of {x : Str} (h : (tl x).all okc = true) (hl : x.length ≤ 400) : okText x = true := by
  unfold okText
  rw [h, decide_eq_true hl]; rfl

/-! ### sets of texts: what they hold, in whatever order; sorted(set(..)) -/
abbrev row0 (b : Bool) : Obj := { cls := .type "set", dict := none, data := .set #[] 0 (.fresh 0 0 b) }
def txOf (e : Int × Value) : Str := match e.2 with
  | .str x _ => x
  | _ => ""
def TxE (w : World) (e : Int × Value) : Prop := ∃ x tk, e.2 = Value.str x tk ∧ e.1 = hashStr w x
/-- the entries of a set of texts xs, its table walkable -/
structure TxRows (w : World) (es : Array (Int × Value)) (t : SetTable) (xs : List Str) : Prop where
  good : ∀ e ∈ es.toList, TxE w e
  keys : (es.toList.map txOf).Perm xs
  few : es.size < scanBound
  fits : t.fits es.size = true
  ris : Ris t.place.toList
  led : w.params.followText "set-order" = true ∨ t.led = true
def TxSet (w : World) (h : Heap) (a : Addr) (xs : List Str) : Prop := ∃ o es ep t, h.get? a = some o ∧ o.ExactSet ∧ o.data = .set es ep t ∧ TxRows w es t xs
theorem TxSet.at {w : World} {h h' : Heap} {a : Addr} {xs : List Str} (R : TxSet w h a xs) (k : ∀ o, h.get? a = some o → h'.get? a = some o) : TxSet w h' a xs := let ⟨o, es, ep, t, ho, r⟩ := R; ⟨o, es, ep, t, k o ho, r⟩
theorem txset_new {w : World} {h : Heap} {a : Addr} (ho : h.get? a = some (row0 (!w.params.followText "set-order"))) : TxSet w h a [] := by
  refine ⟨_, #[], 0, _, ho, ⟨rfl, rfl, rfl⟩, rfl, fun e he => (by simp at he), .refl _, by decide, rfl, List.Pairwise.nil, ?_⟩
  show _ ∨ (!w.params.followText "set-order") = true
  cases w.params.followText "set-order"
  · exact .inr rfl
  · exact .inl rfl
section
variable {P : Program} {w : World} {A : Around} {E : Value → Shared → Prop} {s : Shared} {a : Addr} {xs : List Str}
theorem TxRows.elems {es : Array (Int × Value)} {t : SetTable} (R : TxRows w es t xs) : ElemsOf (PySem.strKind P w) es.toList := fun e he => by
  obtain ⟨x, tk, e1, e2⟩ := R.good e he
  exact ⟨⟨x, by rw [e1]; exact strKind_is P w x tk, e2⟩, by rw [e1]; rfl⟩
theorem tx_is {e : Int × Value} (g : TxE w e) (x : Str) : (PySem.strKind P w).is x e.2 = true ↔ txOf e = x := by
  obtain ⟨y, tk, e1, _⟩ := g
  unfold txOf
  rw [e1]
  constructor
  · intro h
    obtain ⟨t, ht⟩ := Value.isStrOf_shape (show Value.isStrOf x (Value.str y tk) = true from h)
    injection ht
  · rintro rfl
    exact strKind_is P w y tk
/-- what was stored is a set again, the table laid anew or not -/
theorem tx_tail {g : Bool → Sem Unit} (hg : ∀ (b : Bool) (s1 : Shared) (Q1 : Unit → Shared → Prop), Q1 () s1 → wpAny (model P w) A (g b) Q1 E s1) {o : Obj} {es es1 : Array (Int × Value)} {ep : Nat} {t t1 : SetTable}
    (ho : s.heap.get? a = some o) (hx : o.ExactSet) (hd : o.data = .set es ep t) (T : TxRows w es1 t1 xs) {old : Bool} {R : Option Bool → Shared → Prop} (hR : ∀ h', Heap.SameBut a s.heap h' → TxSet w h' a xs → R (some true) { s with heap := h' }) :
    wpAny (model P w) A (storeSet a es1 t1 >>= fun _ => if (!old && t1.tooFull) = true then (g (relayAll t1 es1 (SetTable.grown es1.size)).2.2 >>= fun _ => storeSet a (relayAll t1 es1 (SetTable.grown es1.size)).1 (relayAll t1 es1 (SetTable.grown es1.size)).2.1 >>= fun _ => pure (some true)) else pure (some true)) R E s := by
  have q1 := store_at (es' := es1) (t' := t1) ho hd
  have b1 := Heap.SameBut.update s.heap a (Obj.putSet es1 t1)
  refine wpAny_bind (wpAny_storeSet_of ho hd ?_ (fits_of_scanBound T.few))
  by_cases c : (!old && t1.tooFull) = true
  · rw [if_pos c]
    have pm := relayAll_perm t1 es1 (SetTable.grown es1.size)
    have ff := relayAll_fits t1 es1 (SetTable.grown es1.size)
    have rr := relayAll_ris t1 es1 (SetTable.grown es1.size)
    have ll := relayAll_led t1 es1 (SetTable.grown es1.size)
    generalize relayAll t1 es1 (SetTable.grown es1.size) = Z at pm ff rr ll ⊢
    obtain ⟨es2, t2, gv⟩ := Z
    dsimp only at pm ff rr ll ⊢
    have sz : es2.size = es1.size := by rw [← Array.length_toList, pm.length_eq, Array.length_toList]
    have few2 : es2.size < scanBound := by rw [sz]; exact T.few
    refine wpAny_bind (hg _ _ _ (wpAny_bind (wpAny_storeSet_of q1 rfl (wpAny_pure (hR _ (b1.trans (Heap.SameBut.update _ a _)) ?_)) (fits_of_scanBound few2))))
    exact ⟨_, es2, _, t2, store_at (es' := es2) (t' := t2) q1 rfl, hx, rfl, fun e he => T.good e (pm.mem_iff.mp he), (pm.map txOf).trans T.keys, few2, ff, rr, T.led.imp id fun z => ll.trans z⟩
  · rw [if_neg c]
    exact wpAny_pure (hR _ b1 ⟨_, es1, _, t1, q1, hx, rfl, T⟩)
theorem tx_add {x : Str} {tk : Tok} {Q : Bool → Shared → Prop} (R : TxSet w s.heap a xs) (room : xs.length + 1 < scanBound) (hQ : ∀ b h', Heap.SameBut a s.heap h' → TxSet w h' a (if x ∈ xs then xs else x :: xs) → Q b { s with heap := h' }) : wpAny (model P w) A (setAddHashed a (.str x tk) ((PySem.strKind P w).hash x)) Q E s := by
  obtain ⟨o, es, ep, t, ho, hx, hd, T⟩ := R
  have is0 : (PySem.strKind P w).is x (.str x tk) = true := strKind_is P w x tk
  have el := T.elems (P := P)
  have memk : x ∈ xs ↔ ∃ e ∈ es.toList, (PySem.strKind P w).is x e.2 = true := by
    rw [← T.keys.mem_iff, List.mem_map]
    exact ⟨fun ⟨e, he, q⟩ => ⟨e, he, (tx_is (T.good e he) x).mpr q⟩, fun ⟨e, he, q⟩ => ⟨e, he, (tx_is (T.good e he) x).mp q⟩⟩
  unfold setAddHashed setAddHashedIn
  refine wpAny_holding (wpAny_bind (wpAny_setState_of ho hd T.fits ?_))
  dsimp only
  rw [byScan_of (knd := PySem.strKind P w) rfl T.few el]
  simp only [↓reduceIte]
  unfold setAddByScan
  refine wpAny_bind (wpAny_bind (wpAny_rule (wpAny_bind (wpAny_setScan_of is0 ho hd T.fits el ?_))))
  cases hfi : es.toList.findIdx? (fun e => (PySem.strKind P w).is x e.2) with
  | some j =>
    dsimp only
    obtain ⟨hj, pj, _⟩ := List.findIdx?_eq_some_iff_getElem.mp hfi
    have hm : x ∈ xs := memk.mpr ⟨_, List.getElem_mem hj, pj⟩
    have q := hQ false s.heap (Heap.SameBut.refl a s.heap)
    rw [if_pos hm] at q
    exact wpAny_pure (wpAny_pure (q ⟨o, es, ep, t, ho, hx, hd, T⟩))
  | none =>
    dsimp only
    have hm : x ∉ xs := fun z => by
      obtain ⟨e, he, q⟩ := memk.mp z
      have := List.findIdx?_eq_none_iff.mp hfi e he
      rw [q] at this; cases this
    rw [if_neg hm] at hQ
    have gv : ∀ (b : Bool) {s1 : Shared} {Q1 : Unit → Shared → Prop}, Q1 () s1 → wpAny (model P w) A (match b with | true => rule "set.scan.the-table-gave-way" | false => pure ()) Q1 E s1 := fun b s1 Q1 q => by
      cases b
      · exact wpAny_pure q
      · exact wpAny_rule q
    have pm := layNew_perm t es ((PySem.strKind P w).hash x) (.str x tk)
    have ff := layNew_fits t es ((PySem.strKind P w).hash x) (.str x tk)
    have rr := layNew_ris t es ((PySem.strKind P w).hash x) (.str x tk) T.ris
    have ll := layNew_led t es ((PySem.strKind P w).hash x) (.str x tk)
    generalize layNew t es ((PySem.strKind P w).hash x) (.str x tk) = Z at pm ff rr ll ⊢
    obtain ⟨es1, t1, old, gave⟩ := Z
    dsimp only at pm ff rr ll ⊢
    rw [Array.toList_push] at pm
    have pc := pm.trans (List.perm_append_singleton _ _)
    have sz : es1.size = es.size + 1 := by rw [← Array.length_toList, pc.length_eq, List.length_cons, Array.length_toList]
    have sz0 : es.size = xs.length := by rw [← T.keys.length_eq, List.length_map, Array.length_toList]
    have T1 : TxRows w es1 t1 (x :: xs) := by
      refine ⟨fun e he => ?_, (pc.map txOf).trans (List.Perm.cons _ T.keys), by omega, ff, rr, T.led.imp id fun z => ll.trans z⟩
      rcases List.mem_cons.mp (pc.mem_iff.mp he) with rfl | z
      · exact ⟨x, tk, rfl, rfl⟩
      · exact T.good e z
    refine wpAny_bind (gv _ ?_)
    split
    · refine wpAny_bind ?_
      rw [hashByValue_scannable 8 (x := .str x tk) rfl]
      refine wpAny_pure ?_
      refine tx_tail (fun b s1 Q1 q => by cases b <;> first | exact wpAny_pure q | exact wpAny_rule q) ho hx hd (xs := x :: xs) ?_ fun h' sb r => ?_
      · exact ⟨T1.good, T1.keys, T1.few, SetTable.fits_plain_off T1.fits, T1.ris, T1.led⟩
      · dsimp only; exact wpAny_pure (hQ _ h' sb r)
    · refine wpAny_bind (wpAny_pure ?_)
      simp only [↓reduceIte]
      refine tx_tail (fun b s1 Q1 q => by cases b <;> first | exact wpAny_pure q | exact wpAny_rule q) ho hx hd T1 fun h' sb r => ?_
      dsimp only; exact wpAny_pure (hQ _ h' sb r)
theorem strs_get : ∀ {us : List Value} {l : List Str}, StrsAre us l → ∀ {i : Nat} {v : Value}, us[i]? = some v → ∃ x tk, l[i]? = some x ∧ v = .str x tk
  | _, _, .nil, i, v, h => by cases h
  | _, _, .cons x t r, i, v, h => by
    cases i with
    | zero =>
      cases h
      exact ⟨x, t, rfl, rfl⟩
    | succ i => exact strs_get r h
/-- the members behind i items of a list -/
def mems : List Str → List Str
  | [] => []
  | x :: r => let m := mems r; if x ∈ m then m else x :: m
theorem mems_mem : ∀ {l : List Str} {x : Str}, x ∈ mems l ↔ x ∈ l
  | [], x => Iff.rfl
  | y :: r, x => by
    have ih : ∀ z, z ∈ mems r ↔ z ∈ r := fun z => mems_mem
    unfold mems
    by_cases h : y ∈ mems r
    · show x ∈ (if y ∈ mems r then mems r else y :: mems r) ↔ _
      rw [if_pos h, ih x, List.mem_cons]
      exact ⟨.inr, fun z => z.elim (fun e => e ▸ (ih y).mp h) id⟩
    · show x ∈ (if y ∈ mems r then mems r else y :: mems r) ↔ _
      rw [if_neg h, List.mem_cons, List.mem_cons, ih x]
theorem mems_nodup : ∀ (l : List Str), (mems l).Nodup
  | [] => List.nodup_nil
  | y :: r => by
    unfold mems
    by_cases h : y ∈ mems r
    · simp only [if_pos h]; exact mems_nodup r
    · simp only [if_neg h]; exact List.nodup_cons.mpr ⟨h, mems_nodup r⟩
theorem mems_len : ∀ (l : List Str), (mems l).length ≤ l.length
  | [] => Nat.le_refl _
  | y :: r => by
    have := mems_len r
    unfold mems
    by_cases h : y ∈ mems r
    · simp only [if_pos h, List.length_cons]; omega
    · simp only [if_neg h, List.length_cons]; omega
theorem mems_snoc {l : List Str} {i : Nat} {x : Str} (h : l[i]? = some x) : mems (l.take (i + 1)).reverse = if x ∈ mems (l.take i).reverse then mems (l.take i).reverse else x :: mems (l.take i).reverse := by
  rw [List.take_succ, h, Option.toList_some, List.reverse_append]
  rfl
theorem tx_loop {I : Addr} {fp wr : List Addr} {G : Array GenState → Array GenState → Prop} {n : Nat} {Pv : Nat → Value → Prop} {St : Nat → Shared → Prop} {R : Result → Shared → Prop} (W : WalksS P w A.in1 I fp wr G n Pv St)
    (nf : a ∉ fp) (l : List Str) (hn : n = l.length) (hb : l.length + 1 < scanBound) (hv : ∀ i v, Pv i v → ∃ x tk, l[i]? = some x ∧ v = .str x tk) : ∀ (m i : Nat) (s : Shared), n - i = m → i ≤ n → St i s → TxSet w s.heap a (mems (l.take i).reverse) →
      (∀ s', Moved (a :: wr) G s s' → TxSet w s'.heap a (mems l.reverse) → R (.ok (.ret .none)) s') → codeAny (model P w) A (.builtin "set.update.loop" ⟨[.ref a, .ref I], []⟩) R s := by
  have nw : a ∉ wr := fun h => nf (W.sub _ h)
  have sub : ∀ b ∈ wr, b ∈ a :: wr := fun b hb => List.mem_cons_of_mem _ hb
  intro m
  induction m with
  | zero =>
    intro i s e hi st T k
    have : i = n := by omega
    subst this
    refine codeAny_builtin F.entry_set_update_loop ?_
    rw [Around.under_plainId F.plain_set_update_loop _]
    show wpAny _ A.in1 (pyNext (.ref I) >>= _) _ _ s
    refine wpAny_bind (W.done s _ _ st fun s' mv => ?_)
    show wpAny _ A.in1 (ret Value.none) _ _ s'
    rw [List.take_of_length_le (by omega)] at T
    exact wpAny_pure (k s' (mv.mono sub) (T.at fun o e => mv.heap a o nw e))
  | succ m ih =>
    intro i s e hi st T k
    have lt : i < n := by omega
    refine codeAny_builtin F.entry_set_update_loop ?_
    rw [Around.under_plainId F.plain_set_update_loop _]
    show wpAny _ A.in1 (pyNext (.ref I) >>= _) _ _ s
    refine wpAny_bind (W.item i s _ _ lt st fun v s' pv st' mv => ?_)
    obtain ⟨x, tk, hx, rfl⟩ := hv i v pv
    have T' : TxSet w s'.heap a (mems (l.take i).reverse) := T.at fun o e => mv.heap a o nw e
    show wpAny _ A.in1 (holding [Value.str x tk] (setAdd a (.str x tk)) >>= _) _ _ s'
    refine wpAny_bind (wpAny_holding ?_)
    unfold setAdd
    refine wpAny_holding (wpAny_bind ((PySem.strKind P w).pyHash (k := x) (strKind_is _ _ _ _) ?_))
    have ml : (mems (l.take i).reverse).length ≤ l.length := by
      have := mems_len (l.take i).reverse
      rw [List.length_reverse, List.length_take] at this
      omega
    refine tx_add (s := { s' with toks := s'.toks + 1 }) T' (by omega) fun b h' sb T2 => ?_
    rw [← mems_snoc hx] at T2
    refine wpAny_pure ⟨plainId_quiet F.plain_set_update_loop _, ih (i + 1) _ (by omega) lt (W.frame _ s' _ _ st' (Nat.le_succ _) fun c hc o e => ?_) T2 fun s'' mv'' T3 => k s'' (Moved.trans W.gtrans ((mv.mono sub).then_heap (Nat.le_succ _) fun c o hc e => ?_) mv'') T3⟩
    · rw [sb.2 c (fun z : c = a => nf (by rw [← z]; exact hc))]; exact e
    · rw [sb.2 c (fun z : c = a => hc (by rw [z]; exact List.mem_cons_self))]; exact e
/-- set(l), l a list of texts -/
theorem tx_set {q : Addr} {items : Array Value} {l : List Str} {Q : Value → Shared → Prop} (hh : A.handled = none) (hl : s.heap.IsList q items) (hit : StrsAre items.toList l) (hb : l.length + 1 < scanBound)
    (k : ∀ (h' : Heap) (tk : Nat), TxSet w h' s.heap.objs.size (mems l.reverse) → (∀ b o, s.heap.get? b = some o → h'.get? b = some o) → Q (.ref s.heap.objs.size) { s with heap := h', toks := tk }) : wpAny (model P w) A (call (.type "set") [.ref q]) Q E s := by
  have isz : items.size = l.length := by
    have := hit.length
    rw [Array.length_toList] at this
    exact this
  obtain ⟨c, tl, hmro⟩ := F.called_set.mro
  have hmade := F.called_set.made
  have hsub := F.called_set.sub
  refine wpAny_call (codeAny_of_tree ?_)
  show wpAny _ _ (callAny (.type "set") _) _ _ _
  refine wpAny_pure ⟨Code.quiet_builtin _ (by decide +kernel), codeAny_builtin F.entry_type_call ?_⟩
  rw [Around.under_plain (weight_type_call_type "set" [.ref q] []) rfl]
  have n1 := F.called_set.notType
  have n2 := F.called_set.canCreate
  have n3 := F.typeCall_set_1 (.ref q)
  repeat (any_goals (first | assumption | wp_step))
  refine codeAny_mono (code_set_led1 (.ref q) (E := E) (Q₁ := fun obj z => obj = .ref s.heap.objs.size ∧ z = { s with heap := s.heap.push (row0 (!w.params.followText "set-order")) }) ⟨rfl, rfl⟩) fun r z hr => ?_
  cases r with
  | error e => exact hr
  | ok fl =>
    cases fl with
    | ret obj =>
      obtain ⟨rfl, rfl⟩ := hr
      have hS : (s.heap.push (row0 (!w.params.followText "set-order"))).get? s.heap.objs.size = some (row0 (!w.params.followText "set-order")) := Heap.get?_push_size _ rfl
      have hT : Shared.TypeIs { s with heap := s.heap.push (row0 (!w.params.followText "set-order")) } (.ref s.heap.objs.size) "set" := ⟨_, hS, rfl⟩
      have i1 := F.called_set.init.lookup
      have i2 := F.called_set.init.bind (.ref s.heap.objs.size)
      repeat (any_goals (first | assumption | wp_step))
      refine codeAny_mono (codeAny_call_builtin (R := wants (fun r z => r = .none ∧ ∃ h' tk, z = { s with heap := h', toks := tk } ∧ TxSet w h' s.heap.objs.size (mems l.reverse) ∧ ∀ b o, s.heap.get? b = some o → h'.get? b = some o) E) F.called_set.init.plain F.entry_set_init (check_set_init_1 hT ?_)) fun r2 z2 hr2 => ?_
      · obtain ⟨ol, hol, hcl, nl, hdl⟩ := hl
        obtain ⟨ocls, odict, odata, oslots⟩ := ol
        simp only at hcl hdl
        subst hcl hdl
        have hol2 : (s.heap.push (row0 (!w.params.followText "set-order"))).get? q = some { cls := .type "list", dict := odict, data := .seq items nl, slots := oslots } := Heap.get?_push_of_some _ hol
        have t1 := F.sub_list_set
        have t2 := F.sub_list_frozenset
        have t3 : (Value.type "list" == Value.type "dict") = false := by decide
        have hl1 : (s.heap.push (row0 (!w.params.followText "set-order"))).IsList q items := ⟨_, hol2, rfl, nl, rfl⟩
        unfold Builtin.«set.__init__» noKeywords Builtin.Frozenset.updateFrom
        generalize hPI : pyIter = PI
        wp_walk
        subst hPI
        refine wpAny_pyIter_list hl1 (wpAny_bind (wpAny_runValue ?_))
        have lt : q < s.heap.objs.size := Heap.lt_size hol
        have sz : (s.heap.push (row0 (!w.params.followText "set-order"))).objs.size = s.heap.objs.size + 1 := Heap.size_push ..
        have ne : q ≠ (s.heap.push (row0 (!w.params.followText "set-order"))).objs.size := by rw [sz]; exact Nat.ne_of_lt (Nat.lt_succ_of_lt lt)
        have nf : s.heap.objs.size ∉ [(s.heap.push (row0 (!w.params.followText "set-order"))).objs.size, q] := by
          rw [sz]
          simp only [List.mem_cons, List.not_mem_nil, or_false, not_or]
          exact ⟨Nat.ne_of_lt (Nat.lt_succ_self _), Nat.ne_of_gt lt⟩
        have hv : ∀ (i : Nat) (v : Value), items[i]? = some v → ∃ x tk, l[i]? = some x ∧ v = .str x tk := fun i v hv => by
          exact strs_get hit (by rw [Array.getElem?_toList]; exact hv)
        refine tx_loop ((Walks.list (by simp [hh]) _ q ne items).toS) nf l isz hb hv (items.size - 0) 0 _ (by omega) (Nat.zero_le _) ⟨⟨_, Heap.get?_push_size _ rfl, rfl, rfl⟩, hl1.push _⟩ (txset_new (Heap.get?_push_of_some _ hS)) fun s' mv T => ?_
        obtain ⟨h', g2, d', tk', os'⟩ := s'
        have eg : g2 = s.gens := mv.gens
        have ed : d' = s.drawn := mv.drawn
        have eo : os' = s.os := mv.os
        subst eg ed eo
        show wpAny _ _ _ _ _ _
        refine wpAny_pure ?_
        show wpAny _ _ (ret Value.none) _ _ _
        refine wpAny_pure ⟨rfl, h', tk', rfl, T, fun b o e => ?_⟩
        have b0 : b < s.heap.objs.size := Heap.lt_size e
        refine mv.heap b o (fun hb' => ?_) (Heap.get?_push_of_some _ (Heap.get?_push_of_some _ e))
        rcases List.mem_cons.mp hb' with z | z
        · exact absurd b0 (by rw [z]; exact Nat.lt_irrefl _)
        · exact absurd b0 (by rw [List.mem_singleton.mp z, sz]; exact Nat.not_lt_of_le (Nat.le_succ _))
      · cases r2 with
        | error e => exact hr2
        | ok f2 =>
          cases f2 with
          | ret r =>
            obtain ⟨rfl, h', tk, rfl, T, kp⟩ := hr2
            repeat (any_goals (first | assumption | wp_step))
            exact k _ _ T kp
          | _ => exact hr2.elim
    | _ => exact hr.elim
theorem strs_by : ∀ (vs : List Value), (∀ v ∈ vs, ∃ x tk, v = Value.str x tk) → StrsAre vs (vs.map fun v => txOf (0, v))
  | [], _ => .nil
  | v :: r, h => by
    obtain ⟨x, tk, rfl⟩ := h v List.mem_cons_self
    exact .cons x tk (strs_by r fun u hu => h u (List.mem_cons_of_mem _ hu))
/-- sorted(..) of a set of texts -/
theorem tx_sorted {Q : Value → Shared → Prop} (R : TxSet w s.heap a xs) (hh : A.handled = none) (few : xs.length < 64)
    (k : ∀ s' p (out : Array Value) (c : Nat) (ys : List Str), (∀ b o, s.heap.get? b = some o → s'.heap.get? b = some o) → s'.gens = s.gens → s'.os = s.os → s.heap.objs.size ≤ p → s'.heap.get? p = some (seqObj "list" out c) → StrsAre out.toList ys → ys.Perm xs → sortedS ys = true → Q (.ref p) s') :
    wpAny (model P w) A (call (.builtin "sorted") [.ref a]) Q E s := by
  obtain ⟨o, es, ep, t, ho, hx, hd, T⟩ := R
  refine Calls.call_function_entry kind_sorted plain_sorted entry_sorted (args_sorted1 _) ?_
  unfold Builtin.«sorted»
  refine wpAny_bind (m := checkCount "sorted" 1 1 _) (wpAny_pure (wpAny_bind (collect_set (A := A.in1) hh ⟨o, ho, hx.1, hd⟩ T.fits T.few T.ris T.led fun s1 vs kp sz g1 o1 pm => ?_)))
  have vl : vs.length = xs.length := by rw [pm.length_eq, List.length_map, ← T.keys.length_eq, List.length_map]
  have st : StrsAre vs (vs.map fun v => txOf (0, v)) := strs_by vs fun v hv => by
    obtain ⟨e, he, rfl⟩ := List.mem_map.mp (pm.mem_iff.mp hv)
    obtain ⟨x, tk, e1, _⟩ := T.good e he
    exact ⟨x, tk, e1⟩
  have pk : (vs.map fun v => txOf (0, v)).Perm xs := by
    refine (pm.map _).trans ?_
    rw [List.map_map]
    exact T.keys
  refine wpAny_bind (wpAny_newList ?_ (by rw [vl, sizeLine_eq]; omega))
  have at1 : (s1.heap.push (seqObj "list" vs.toArray 0)).get? s1.heap.objs.size = some (seqObj "list" vs.toArray 0) := Heap.get?_push_size _ rfl
  refine wpAny_bind (wpAny_holding (wpAny_call_entry slot_list_sort ⟨_, at1, rfl⟩ entry_list_sort (list_sort_treeK PyProof.Rows.strKind_oneLt at1 st.keysOf (fun v1 v2 rest e => keyKind_strs (by rw [← e]; exact st)) (by rw [vl]; exact few) fun st' hp hs => ⟨_, rfl, ?_⟩) (args_list_sort _)))
  obtain ⟨ys, y1, y2, y3⟩ := sorted_out_str st hp hs
  obtain ⟨c, hc⟩ := sortedHeap_at (vs := vs) (out := (arrOf st').map (·.2)) at1
  refine wpAny_pure ⟨_, rfl, k _ s1.heap.objs.size _ c ys (fun b u e => ?_) g1 o1 sz hc y1 (y2.trans pk) y3⟩
  have lt := Heap.lt_size (kp b u e)
  show (sortedHeap (s1.heap.push (seqObj "list" vs.toArray 0)) s1.heap.objs.size vs _).get? b = some u
  rw [sortedHeap_old (Nat.ne_of_lt lt) (by rw [size_push']; exact Nat.lt_succ_of_lt lt)]
  exact Heap.get?_push_of_some _ (kp b u e)
end
def tSortSet (K : PySem.W.Frag) (te : TE) : TE := fun σ H Q => te σ H fun v H1 => ∃ (l : Addr) (xs : List Str), v = .ref l ∧ SqL K H1 l (xs.map V.str) ∧ xs.length < 64 ∧ ∀ (p : Addr) (ys : List Str), H1 p = none → ys.Perm (mems xs.reverse) → sortedS ys = true → Q (.ref p) (upd H1 p (.lst (ys.map V.str)))
theorem strs_vals : ∀ {us : List Value} {ys : List Str}, StrsAre us ys → Vals (ys.map V.str) us
  | _, _, .nil => .nil
  | _, _, .cons x t r => .cons ⟨t, rfl⟩ (strs_vals r)
theorem vals_strs : ∀ {ys : List Str} {us : List Value}, Vals (ys.map V.str) us → StrsAre us ys
  | [], _, .nil => .nil
  | x :: r, _, .cons ⟨t, e⟩ h => by subst e; exact .cons x t (vals_strs h)
theorem pe_sortSet {X : Cx} {K : PySem.W.Frag} {e : Expr} {te : TE} {p p2 q pos : Pos} (hK : X.K = K) (hc : X.calm = true) (hm : X.mg "sorted" = none) (hm2 : X.mg "set" = none) (he : PE X e te) (hg : Gl X "sorted" := by rfl) (hg2 : Gl X "set" := by rfl)
    (na : starEach [e] X.env = (false, eval e X.env) :: starEach [] X.env := by rfl) : PE X (.Call (.Name "sorted" p) [.Call (.Name "set" p2) [e] [] q] [] pos) (tSortSet K te) := by
  subst hK
  refine ⟨fun pins s σ H Q I h => ?_⟩
  refine Call_ (ld_blt I hg hm (show bootBuiltins "sorted" = some (.builtin "sorted") by decide +kernel) ?_)
  refine PyProof.Rows.callWith_builtin1 (PyProof.Rows.args_cons ?_ rfl) rfl rfl
  refine Call_ (ld_blt I hg2 hm2 (show bootBuiltins "set" = some (.type "set") by decide +kernel) ?_)
  refine PyProof.Rows.callWith_type1 (PyProof.Rows.args_cons (thn (he.run pins s σ H _ I h) fun v s1 ⟨x, H1, I1, r1, q1⟩ => PyProof.Rows.args_nil ?_) na) na rfl
  obtain ⟨l, xs, rfl, hl, few, k⟩ := q1
  cases r1
  obtain ⟨its, rv, pl, _⟩ := I1.list hl
  refine tx_set (I1.ok.hd hc) pl.isList (by simpa using vals_strs rv) (by unfold scanBound; omega) fun h' tk T kp => PyProof.Rows.args_nil ?_
  have I2 : Inv X pins σ H1 { s1 with heap := h', toks := tk } := I1.kept fun b o e => kp b o e
  have ml : (mems xs.reverse).length < 64 := by
    have := mems_len xs.reverse
    rw [List.length_reverse] at this
    omega
  refine tx_sorted (s := { s1 with heap := h', toks := tk }) T (I2.ok.hd hc) ml fun s' b out c ys k1 g1 o1 hb hg hs hp hsr => ?_
  have yl : (ys.map V.str).length ≤ sizeLine := by rw [List.length_map, hp.length_eq, sizeLine_eq]; omega
  have hn : H1 b = none := I2.hok.fresh hb
  have J : Inv X pins σ (upd H1 b (.lst (ys.map V.str))) { { s1 with heap := h', toks := tk } with heap := s'.heap, gens := s'.gens, drawn := s'.drawn, toks := s'.toks } :=
    I2.call (ch := []) (Un.laid k1 hb hn) (I2.hok.laid k1 hb ⟨yl, out.toList, c, strs_vals hs, hg⟩) (by rw [g1]; exact I2.bare) (fun _ z => nomatch z)
  have es : s' = { { s1 with heap := h', toks := tk } with heap := s'.heap, gens := s'.gens, drawn := s'.drawn, toks := s'.toks } := by
    cases s'
    cases s1
    cases o1
    rfl
  rw [es]
  exact ⟨.ref b, _, J, rfl, k b ys hn hp hsr⟩

/-! ### texts in order -/
theorem lt_irr : ∀ (a : List Nat), ltCps a a = false
  | [] => rfl
  | x :: r => by simp [ltCps, lt_irr r]
theorem lt_tri : ∀ {a b : List Nat}, ltCps a b = false → ltCps b a = false → a = b
  | [], [], _, _ => rfl
  | [], _ :: _, h, _ => by simp [ltCps] at h
  | _ :: _, [], _, h => by simp [ltCps] at h
  | x :: r, y :: t, h1, h2 => by
    simp only [ltCps, Bool.or_eq_false_iff, Bool.and_eq_false_iff, decide_eq_false_iff_not, beq_eq_false_iff_ne] at h1 h2
    have e : x = y := by omega
    subst e
    rw [lt_tri (h1.2.resolve_left (by simp)) (h2.2.resolve_left (by simp))]
theorem le_tr : ∀ {a b c : List Nat}, ltCps b a = false → ltCps c b = false → ltCps c a = false
  | [], b, c, _, _ => by cases c <;> rfl
  | x :: r, [], c, h, _ => by simp [ltCps] at h
  | x :: r, y :: t, [], _, h => by simp [ltCps] at h
  | x :: r, y :: t, z :: u, h1, h2 => by
    simp only [ltCps, Bool.or_eq_false_iff, Bool.and_eq_false_iff, decide_eq_false_iff_not, beq_eq_false_iff_ne] at h1 h2 ⊢
    refine ⟨by omega, ?_⟩
    by_cases e : z = x
    · have e1 : y = x := by omega
      have e2 : z = y := by omega
      exact .inr (le_tr (h1.2.resolve_left (by simpa using e1)) (h2.2.resolve_left (by simpa using e2)))
    · exact .inl e
def leS (x y : Str) : Prop := ltCps (tl y) (tl x) = false
theorem rising_pw : ∀ {r : List Str} {x : Str}, risingS x r = true → (x :: r).Pairwise leS
  | [], x, _ => by simp
  | y :: r, x, h => by
    unfold risingS at h
    rw [Bool.and_eq_true] at h
    have hy : leS x y := by simpa [leS, tl] using h.1
    have ih := rising_pw h.2
    refine List.pairwise_cons.mpr ⟨fun z hz => ?_, ih⟩
    rcases List.mem_cons.mp hz with rfl | q
    · exact hy
    · exact le_tr hy ((List.pairwise_cons.mp ih).1 z q)
theorem sorted_pw {l : List Str} (h : sortedS l = true) : l.Pairwise leS := by
  cases l with
  | nil => exact List.Pairwise.nil
  | cons x r => exact rising_pw h
theorem leS_anti {x y : Str} (h : leS x y) (g : leS y x) : x = y := str_ext (lt_tri g h)
theorem pw_eq : ∀ {l m : List Str}, l.Pairwise leS → m.Pairwise leS → l.Perm m → l = m
  | [], m, _, _, p => by rw [List.nil_perm.mp p]
  | x :: r, m, h, g, p => by
    cases m with
    | nil => exact absurd p.length_eq (by simp)
    | cons y t =>
      have e : x = y := by
        rcases List.mem_cons.mp (p.mem_iff.mp List.mem_cons_self) with z | z
        · exact z
        · rcases List.mem_cons.mp (p.mem_iff.mpr (List.mem_cons_self (a := y) (l := t))) with q | q
          · exact q.symm
          · exact leS_anti ((List.pairwise_cons.mp h).1 y q) ((List.pairwise_cons.mp g).1 x z)
      subst e
      rw [pw_eq (List.pairwise_cons.mp h).2 (List.pairwise_cons.mp g).2 (List.Perm.cons_inv p)]
/-- the texts of xs, each once, in order -/
structure Srt (ys xs : List Str) : Prop where
  pw : ys.Pairwise leS
  nd : ys.Nodup
  mem : ∀ z, z ∈ ys ↔ z ∈ xs
theorem Srt.one {ys zs xs : List Str} (h : Srt ys xs) (g : Srt zs xs) : ys = zs := pw_eq h.pw g.pw ((List.perm_ext_iff_of_nodup h.nd g.nd).mpr fun z => (h.mem z).trans (g.mem z).symm)
theorem Srt.filter {ys xs : List Str} (h : Srt ys xs) (f : Str → Bool) : Srt (ys.filter f) (xs.filter f) := ⟨h.pw.sublist List.filter_sublist, h.nd.sublist List.filter_sublist, fun z => by rw [List.mem_filter, List.mem_filter, h.mem z]⟩
theorem Srt.of {ys xs : List Str} (p : ys.Perm (mems xs.reverse)) (s : sortedS ys = true) : Srt ys xs := ⟨sorted_pw s, p.nodup_iff.mpr (mems_nodup _), fun z => by rw [p.mem_iff, mems_mem, List.mem_reverse]⟩
theorem Srt.len {ys xs : List Str} (p : ys.Perm (mems xs.reverse)) : ys.length ≤ xs.length := by
  have := mems_len xs.reverse
  rw [List.length_reverse] at this
  rw [p.length_eq]; exact this
/-! ### what is to be filled in -/
def fStart (l : List Nat) : Nat → Nat
  | 0 => 0
  | n + 1 => if l[n]? = some 32 then n + 1 else fStart l n
theorem fStart_le {l : List Nat} : ∀ {a : Nat}, fStart l a ≤ a
  | 0 => Nat.le_refl _
  | n + 1 => by
    unfold fStart; split
    · exact Nat.le_refl _
    · exact Nat.le_succ_of_le fStart_le
theorem fStart_in {l : List Nat} : ∀ {a : Nat}, fStart l a = 0 ∨ ∃ k, k < a ∧ l[k]? = some 32 ∧ fStart l a = k + 1
  | 0 => .inl rfl
  | n + 1 => by
    unfold fStart; split
    · rename_i h; exact .inr ⟨n, by omega, h, rfl⟩
    · rcases fStart_in (l := l) (a := n) with z | ⟨k, k1, k2, k3⟩
      · exact .inl z
      · exact .inr ⟨k, by omega, k2, k3⟩
theorem fStart_max {l : List Nat} : ∀ {a k : Nat}, k < a → l[k]? = some 32 → k + 1 ≤ fStart l a
  | 0, k, h, _ => by omega
  | n + 1, k, h, g => by
    unfold fStart; split
    · omega
    · rename_i q
      have : k ≠ n := fun e => q (e ▸ g)
      exact fStart_max (by omega) g
theorem rfind_start {x : Str} {a : Nat} (h : a ≤ x.length) : Txt.rfindIn x " " 0 (a : Nat) + 1 = (fStart (tl x) a : Nat) := by
  have e1 : fromIndex x.length 0 = 0 := rfl
  have e2 : toIndexW x.length (a : Nat) = a := by unfold toIndexW; rw [if_neg (by omega)]; omega
  unfold Txt.rfindIn
  rw [e1, e2, StrLaws.last_eq]
  have key := StrLaws.last_run x " " a (List.range' 0 (a + 1 - 0)) [] none (fun _ z => nomatch z) (fun _ z => nomatch z) (by simpa using List.pairwise_lt_range' (s := 0) (n := a + 1 - 0))
  have at1 : ∀ i, StrLaws.At x " " a i ↔ (i < a ∧ (tl x)[i]? = some 32) := fun i => by
    have s1 := StrLaws.subAt_one x 32 i
    unfold StrLaws.At
    have l1 : (Str.ofString " ").length = 1 := rfl
    rw [l1]
    constructor
    · rintro ⟨h1, h2⟩
      exact ⟨by omega, s1.mp ⟨by show i + 1 ≤ _; omega, h2⟩⟩
    · rintro ⟨h1, h2⟩
      exact ⟨by omega, (s1.mpr h2).2⟩
  have mem : ∀ i, i < a → i ∈ [] ++ List.range' 0 (a + 1 - 0) := fun i hi => by simp [List.mem_range'] ; omega
  cases hr : (forIn (List.range' 0 (a + 1 - 0)) none (StrLaws.lastBody x " " a)).run with
  | none =>
    rw [hr] at key
    have : fStart (tl x) a = 0 := by
      rcases fStart_in (l := tl x) (a := a) with z | ⟨k, k1, k2, _⟩
      · exact z
      · exact absurd ((at1 k).mpr ⟨k1, k2⟩) (key k (mem k k1))
    rw [this]; rfl
  | some m =>
    rw [hr] at key
    obtain ⟨m1, m2⟩ := (at1 m).mp key.1
    have g1 := fStart_max m1 m2
    have : fStart (tl x) a = m + 1 := by
      rcases fStart_in (l := tl x) (a := a) with z | ⟨k, k1, k2, k3⟩
      · omega
      · by_cases q : m < k
        · exact absurd ((at1 k).mpr ⟨k1, k2⟩) (key.2 k (mem k k1) q)
        · omega
    rw [this]; rfl
theorem starts_eq (a b : Str) : Txt.startswith a b = decide ((tl a).take (tl b).length = tl b) := by
  unfold Txt.startswith
  rw [StrLaws.subAt_eq, List.drop_zero]
  have la := len_tl a
  have lb := len_tl b
  show (decide (0 + b.length ≤ a.length) && ((tl a).take b.length == tl b)) = _
  rw [lb]
  by_cases h : (tl a).take (tl b).length = tl b
  · have h1 := congrArg List.length h
    rw [List.length_take] at h1
    rw [h, decide_eq_true rfl, decide_eq_true (by omega)]; simp
  · rw [decide_eq_false h, beq_eq_false_iff_ne.mpr h, Bool.and_false]
/-! ### what all have in common -/
def wk (s0 : Str) (ws : List Str) (n : Nat) : Bool := ws.all fun w => decide ((tl w).take n = (tl s0).take n)
def lcpD (s0 : Str) (ws : List Str) : Nat → Nat
  | 0 => 0
  | n + 1 => if wk s0 ws (n + 1) then n + 1 else lcpD s0 ws n
theorem wk_zero {s0 : Str} {ws : List Str} : wk s0 ws 0 = true := by unfold wk; simp
theorem wk_down {s0 : Str} {ws : List Str} {n m : Nat} (h : wk s0 ws n = true) (hm : m ≤ n) : wk s0 ws m = true := by
  unfold wk at *
  rw [List.all_eq_true] at *
  intro w hw
  have := of_decide_eq_true (h w hw)
  apply decide_eq_true
  have e := congrArg (List.take m) this
  rw [List.take_take, List.take_take, Nat.min_eq_left hm] at e
  exact e
theorem lcpD_le {s0 : Str} {ws : List Str} : ∀ {n : Nat}, lcpD s0 ws n ≤ n
  | 0 => Nat.le_refl _
  | n + 1 => by
    unfold lcpD; split
    · exact Nat.le_refl _
    · exact Nat.le_succ_of_le lcpD_le
theorem lcpD_wk {s0 : Str} {ws : List Str} : ∀ {n : Nat}, wk s0 ws (lcpD s0 ws n) = true
  | 0 => wk_zero
  | n + 1 => by
    unfold lcpD; split
    · rename_i h; exact h
    · exact lcpD_wk
theorem lcpD_stop {s0 : Str} {ws : List Str} {n : Nat} (h : wk s0 ws n = true) : lcpD s0 ws n = n := by
  cases n with
  | zero => rfl
  | succ n => rw [lcpD, if_pos h]
theorem lcpD_step {s0 : Str} {ws : List Str} {n : Nat} (h : wk s0 ws (n + 1) = false) : lcpD s0 ws (n + 1) = lcpD s0 ws n := by
  rw [lcpD, if_neg]; rw [h]; exact Bool.false_ne_true
theorem lcpD_eq {s0 : Str} {ws : List Str} {N m : Nat} (h : wk s0 ws m = true) (hm : m ≤ N) (he : m = N ∨ wk s0 ws (m + 1) = false) : lcpD s0 ws N = m := by
  rcases he with rfl | he
  · exact lcpD_stop h
  · have hle := lcpD_le (s0 := s0) (ws := ws) (n := N)
    have hw := lcpD_wk (s0 := s0) (ws := ws) (n := N)
    have h1 : lcpD s0 ws N ≤ m := by
      by_cases q : lcpD s0 ws N ≤ m
      · exact q
      · rw [wk_down hw (m := m + 1) (by omega)] at he; cases he
    have h2 : m ≤ lcpD s0 ws N := by
      clear hle hw h1 he
      induction N with
      | zero => omega
      | succ N ih =>
        unfold lcpD; split
        · exact hm
        · rename_i q
          by_cases e : m = N + 1
          · exact absurd (e ▸ h) q
          · exact ih (by omega)
    omega
def fPart (x : Str) (a : Nat) : Str := S (((tl x).drop (fStart (tl x) a)).take (a - fStart (tl x) a))
def fFit (ws : List Str) (part : Str) : List Str := ws.filter fun w => Txt.startswith w part
def fCommon (ws : List Str) (part : Str) : Str := match ws with
  | [] => part
  | s0 :: r => S ((tl s0).take (lcpD s0 (s0 :: r) s0.length))
def wordOk (x : Str) : Bool := okText x && (!decide (x = "") && !decide (32 ∈ tl x))
def fillOk (xs : List Str) : Bool := decide (xs.length ≤ 200) && xs.all wordOk
def fillF (l : Addr) : List (Str × V) := [("words", .ref l)]
structure FillAt (K : PySem.W.Frag) (H : Hp) (p l : Addr) (ws : List Str) : Prop where
  ob : ∃ dx, H p = some (.ins (He.ga K "Filler") dx (fillF l))
  ls : H l = some (.lst (ws.map V.str))
theorem FillAt.same {K : PySem.W.Frag} {H H' : Hp} {p l : Addr} {ws : List Str} (R : FillAt K H p l ws) (h : Same H H') : FillAt K H' p l ws := ⟨let ⟨dx, e⟩ := R.ob; ⟨dx, h _ _ e⟩, h _ _ R.ls⟩
/-! ### a comprehension over a list, tests and items that leave the heap as it is -/
theorem filter_take_succ {α : Type} {xs : List α} {i : Nat} {x : α} {f : α → Bool} (h : xs[i]? = some x) : (xs.take (i + 1)).filter f = (xs.take i).filter f ++ (if f x = true then [x] else []) := by
  rw [List.take_succ, h, Option.toList_some, List.filter_append, List.filter_cons, List.filter_nil]
theorem lc_lstP {K : PySem.W.Frag} {σ : L2.St} {H1 : Hp} {te : TE} {tt : TT} {vs : List Nat} {D a : Addr} {Qd : Hp → Prop} {xs : List V} {j : Nat} (f : V → Bool) (v : V → V) (hL : SqL K H1 a xs) (hn : xs.length < 1000000) (hw : ∀ v, wipe ((wipe σ vs).set j (some v)) vs = wipe σ vs) (hD : H1 D = none)
    (ht : ∀ x ∈ xs, ∀ (H2 : Hp) (Q2 : Bool → Hp → Prop), Same H1 H2 → Q2 (f x) H2 → tt ((wipe σ vs).set j (some x)) H2 Q2)
    (he : ∀ x ∈ xs, ∀ (H2 : Hp) (Q2 : VK), f x = true → Same H1 H2 → Q2 (v x) H2 → te ((wipe σ vs).set j (some x)) H2 Q2)
    (hd : Qd (upd H1 D (.lst ((xs.filter f).map v)))) : LcGo (Itl K a) (gName j) tt te vs σ D H1 Qd := by
  refine lg_list (K := K) (xs := xs) (fun i H2 => H2 = upd H1 D (.lst (((xs.take i).filter f).map v))) rfl (fun i H2 _ e => ?_) ?_ (fun H e => by rw [e, List.take_length]; exact hd)
  · rw [e]; exact Evl.ex_l (Same.own (Same.refl _) hD) hL
  rintro i x H2 hx rfl
  have sm : Same H1 (upd H1 D (.lst (((xs.take i).filter f).map v))) := Same.own (Same.refl _) hD
  have hm := List.mem_of_getElem? hx
  refine ⟨hw _, ht x hm _ _ sm ?_⟩
  refine ite_b (fun h => ?_) (fun h => ?_)
  · refine he x hm _ _ h sm ⟨_, upd_same, ?_, ?_⟩
    · rw [List.length_map, sizeLine_eq]
      have := List.length_filter_le f (xs.take i)
      rw [List.length_take] at this
      omega
    · rw [upd_upd, filter_take_succ hx, if_pos h, List.map_append]; rfl
  · rw [filter_take_succ hx, if_neg (by rw [h]; exact Bool.false_ne_true), List.append_nil]
theorem z_sortSet {σ : L2.St} {H : Hp} {Q : VK} {K : PySem.W.Frag} {te : TE} (q : te σ H fun v H1 => ∃ (l : Addr) (xs : List Str), v = .ref l ∧ SqL K H1 l (xs.map V.str) ∧ xs.length < 64 ∧ ∀ (p : Addr) (ys : List Str), H1 p = none → ys.Perm (mems xs.reverse) → sortedS ys = true → Q (.ref p) (upd H1 p (.lst (ys.map V.str)))) : tSortSet K te σ H Q := q
mutual
theorem dp_same0 {K : PySem.W.Frag} {H H' : Hp} (s : Same H H') : ∀ (d : PyData) (x : V), Dp K H x d → Dp K H' x d
  | .none, _, h => by cases h; constructor
  | .bool _, _, h => by cases h; constructor
  | .int _, _, h => by cases h; constructor
  | .str _, _, h => by cases h; constructor
  | .dict _, _, h => by cases h
  | .list ds, _, h => by
    cases h with
    | lst a b => exact .lst (Evl.ex_l s a) (dpAll_same0 s ds _ b)
  | .tuple ds, _, h => by
    cases h with
    | tup a b => exact .tup (Evl.ex_t s a) (dpAll_same0 s ds _ b)
theorem dpAll_same0 {K : PySem.W.Frag} {H H' : Hp} (s : Same H H') : ∀ (ds : List PyData) (xs : List V), DpAll K H xs ds → DpAll K H' xs ds
  | [], _, h => by cases h; exact .nil
  | d :: ds, _, h => by
    cases h with
    | cons a b => exact .cons (dp_same0 s d _ a) (dpAll_same0 s ds _ b)
end
theorem dp_same {K : PySem.W.Frag} {H H' : Hp} {x : V} {d : PyData} (h : Dp K H x d) (s : Same H H') : Dp K H' x d := dp_same0 s d x h
theorem dpAll_snoc {K : PySem.W.Frag} {H : Hp} {v : V} {d : PyData} : ∀ {xs : List V} {ds : List PyData}, DpAll K H xs ds → Dp K H v d → DpAll K H (xs ++ [v]) (ds ++ [d])
  | [], _, h, g => by cases h; exact .cons g .nil
  | x :: xs, _, h, g => by
    cases h with
    | cons a b => exact .cons a (dpAll_snoc b g)

/-! ### hands: the mirror -/
structure RingS where
  ts : List Str
  spot : Int
structure HistS where
  kept : List Str
  shown : List Str
  spot : Nat
/-- what was found for a beginning of what is looked for -/
structure Ent where
  at_ : Option Nat
  lost : Bool
  part : Str
structure SrchS where
  was : Pic
  spot : Nat
  part : Str
  trail : List Ent
structure ChoiceS where
  start : Int
  some_ : List Str
  k : Nat
structure HS where
  line : LineS
  ring : RingS
  hist : HistS
  ws : List Str
  w : Int
  f : Int
  ent : List Str
  cut : Bool
  times : Option Int
  yank : Option (Int × Int)
  srch : Option SrchS
  choice : Option ChoiceS
  kept : Option (List Str)
  mac : List Str
  n : Nat
/-! ### hands in the heap -/
structure HA where
  dx : Addr
  pl : Addr
  lb : Addr
  ll : Addr
  pr : Addr
  rl : Addr
  ph : Addr
  hk : Addr
  hs : Addr
  pf : Addr
  fl : Addr
  pw : Addr
  el : Addr
  ml : Addr
  yv : V
  sv : V
  sfp : List Addr
  cv : V
  cfp : List Addr
  kv : V
  kfp : List Addr
namespace HA
def fL (A : HA) : List Addr := [A.pl, A.lb, A.ll]
def fR (A : HA) : List Addr := [A.pr, A.rl]
def fH (A : HA) : List Addr := [A.ph, A.hk, A.hs]
def fF (A : HA) : List Addr := [A.pf, A.fl]
def fW (A : HA) : List Addr := [A.pw]
def fE (A : HA) : List Addr := [A.el]
def fM (A : HA) : List Addr := [A.ml]
def bs (A : HA) (p : Addr) : List (List Addr) := [[p], A.fL, A.fR, A.fH, A.fF, A.fW, A.fE, A.fM, A.sfp, A.cfp, A.kfp]
def X (A : HA) (p : Addr) : List Addr := (A.bs p).flatten
end HA
def tiV : Option Int → V
  | none => .non
  | some k => .int k
def handF (A : HA) (cut : Bool) (times : Option Int) : List (Str × V) := [("line", .ref A.pl), ("ring", .ref A.pr), ("history", .ref A.ph), ("filler", .ref A.pf), ("window", .ref A.pw), ("entered", .ref A.el), ("last_cut", .bl cut), ("times", tiV times), ("yanked", A.yv), ("search", A.sv), ("choice", A.cv), ("keys_kept", A.kv), ("macro", .ref A.ml)]
def srF (r : Addr) (spot : Nat) (part : Str) (st : Addr) : List (Str × V) := [("was", .ref r), ("spot", .int (spot : Nat)), ("part", .str part), ("trail", .ref st)]
def EntAt (H : Hp) (r : Addr) (e : Ent) : Prop := H r = some (.tup [optV e.at_, .bl e.lost, .str e.part])
def TrailAt (H : Hp) (st : Addr) (es : List Ent) : Prop := ∃ rs : List Addr, H st = some (.lst (rs.map V.ref)) ∧ Paired (EntAt H) rs es
structure SrObj (K : PySem.W.Frag) (H : Hp) (ps st : Addr) (q : SrchS) : Prop where
  ob : ∃ dx r, H ps = some (.ins (He.ga K "Search") dx (srF r q.spot q.part st)) ∧ PicAt H r q.was
  tr : TrailAt H st q.trail
def SrAt (K : PySem.W.Frag) (H : Hp) (v : V) (fp : List Addr) : Option SrchS → Prop
  | none => v = .non ∧ fp = []
  | some q => ∃ ps st, v = .ref ps ∧ fp = [ps, st] ∧ SrObj K H ps st q
def YaAt (H : Hp) (v : V) : Option (Int × Int) → Prop
  | none => v = .non
  | some y => ∃ r, v = .ref r ∧ H r = some (.tup [.int y.1, .int y.2])
def ChAt (H : Hp) (v : V) (fp : List Addr) : Option ChoiceS → Prop
  | none => v = .non ∧ fp = []
  | some c => ∃ r l, v = .ref r ∧ fp = [l] ∧ H r = some (.tup [.int c.start, .ref l, .int (c.k : Nat)]) ∧ H l = some (.lst (c.some_.map V.str))
def KeAt (H : Hp) (v : V) (fp : List Addr) : Option (List Str) → Prop
  | none => v = .non ∧ fp = []
  | some l => ∃ k, v = .ref k ∧ fp = [k] ∧ H k = some (.lst (l.map V.str))
structure HandAt (K : PySem.W.Frag) (H : Hp) (p : Addr) (A : HA) (S : HS) : Prop where
  ob : H p = some (.ins (He.ga K "Hand") A.dx (handF A S.cut S.times))
  li : LineAt K H A.pl A.lb A.ll S.line
  ri : RingAt K H A.pr A.rl 10 S.ring.ts S.ring.spot
  hi : HistAt K H A.ph A.hk A.hs 50 S.hist.kept S.hist.shown S.hist.spot
  fi : FillAt K H A.pf A.fl S.ws
  wi : WinAt K H A.pw S.w S.f
  en : H A.el = some (.lst (S.ent.map V.str))
  ma : H A.ml = some (.lst (S.mac.map V.str))
  sr : SrAt K H A.sv A.sfp S.srch
  ya : YaAt H A.yv S.yank
  ch : ChAt H A.cv A.cfp S.choice
  ke : KeAt H A.kv A.kfp S.kept
  pw : (A.bs p).Pairwise Ap
/-- changed within X alone, which is X' then: of X, or new -/
structure Mv (H H' : Hp) (X X' : List Addr) : Prop where
  fr : Fr X H H'
  nw : Nw H X X'
theorem Mv.refl {H : Hp} {X : List Addr} : Mv H H X X := ⟨Fr.refl, nw_refl⟩
theorem Mv.same {H H' : Hp} {X : List Addr} (s : Same H H') : Mv H H' X X := ⟨Fr.same s, nw_refl⟩
theorem Mv.trans {H H1 H2 : Hp} {X X1 X2 : List Addr} (m : Mv H H1 X X1) (k : Mv H1 H2 X1 X2) : Mv H H2 X X2 :=
  ⟨fun b o e n => k.fr b o (m.fr b o e n) fun z => (m.nw b z).elim n (fun q => (by rw [q] at e; cases e)), m.nw.trans k.nw m.fr⟩
/-- a hand moved: within its own, the list of what is played stays the same one -/
structure Mq (H H' : Hp) (p : Addr) (A A' : HA) : Prop where
  mv : Mv H H' (A.X p) (A'.X p)
  ml : A'.ml = A.ml
theorem Mq.refl {H : Hp} {p : Addr} {A : HA} : Mq H H p A A := ⟨Mv.refl, rfl⟩
theorem Mq.same {H H' : Hp} {p : Addr} {A : HA} (s : Same H H') : Mq H H' p A A := ⟨Mv.same s, rfl⟩
theorem Mq.trans {H H1 H2 : Hp} {p : Addr} {A A1 A2 : HA} (m : Mq H H1 p A A1) (k : Mq H1 H2 p A1 A2) : Mq H H2 p A A2 := ⟨m.mv.trans k.mv, k.ml.trans m.ml⟩
section
variable {K : PySem.W.Frag} {H H' : Hp} {S : List Addr}
theorem RingAt.ap {p l : Addr} {m s : Int} {ts : List Str} (R : RingAt K H p l m ts s) (f : Fr S H H') (w : Wrs H S) (n : Ap [p, l] S) : RingAt K H' p l m ts s := ⟨let ⟨dx, e⟩ := R.ob; ⟨dx, f _ _ e (n p (by simp))⟩, f _ _ R.ls (n l (by simp))⟩
theorem HistAt.ap {p lk ls : Addr} {m s : Int} {ks ss : List Str} (R : HistAt K H p lk ls m ks ss s) (f : Fr S H H') (w : Wrs H S) (n : Ap [p, lk, ls] S) : HistAt K H' p lk ls m ks ss s := R.fr f (n p (by simp)) (n lk (by simp)) (n ls (by simp))
theorem FillAt.ap {p l : Addr} {ws : List Str} (R : FillAt K H p l ws) (f : Fr S H H') (w : Wrs H S) (n : Ap [p, l] S) : FillAt K H' p l ws := ⟨let ⟨dx, e⟩ := R.ob; ⟨dx, f _ _ e (n p (by simp))⟩, f _ _ R.ls (n l (by simp))⟩
theorem WinAt.ap {p : Addr} {v u : Int} (R : WinAt K H p v u) (f : Fr S H H') (w : Wrs H S) (n : Ap [p] S) : WinAt K H' p v u := let ⟨dx, e⟩ := R; ⟨dx, f _ _ e (n p (by simp))⟩
theorem EntAt.fr {r : Addr} {e : Ent} (h : EntAt H r e) (f : Fr S H H') (n : Nt H S) : EntAt H' r e := f _ _ h fun z => n _ z _ h
theorem TrailAt.fr {st : Addr} {es : List Ent} (h : TrailAt H st es) (f : Fr S H H') (n : Nt H S) (hs : st ∉ S) : TrailAt H' st es := let ⟨rs, a, b⟩ := h; ⟨rs, f _ _ a hs, Paired.mapP b fun _ _ z => z.fr f n⟩
theorem SrObj.ap {ps st : Addr} {q : SrchS} (R : SrObj K H ps st q) (f : Fr S H H') (w : Wrs H S) (n : Ap [ps, st] S) : SrObj K H' ps st q :=
  ⟨let ⟨dx, r, e, hp⟩ := R.ob; ⟨dx, r, f _ _ e (n ps (by simp)), hp.fr f w.nt⟩, R.tr.fr f w.nt (n st (by simp))⟩
theorem SrAt.ap {v : V} {fp : List Addr} {q : Option SrchS} (R : SrAt K H v fp q) (f : Fr S H H') (w : Wrs H S) (n : Ap fp S) : SrAt K H' v fp q := by
  cases q with
  | none => exact R
  | some q => obtain ⟨ps, st, a, rfl, c⟩ := R; exact ⟨ps, st, a, rfl, c.ap f w n⟩
theorem YaAt.nt {v : V} {y : Option (Int × Int)} (R : YaAt H v y) (f : Fr S H H') (n : Nt H S) : YaAt H' v y := by
  cases y with
  | none => exact R
  | some y => obtain ⟨r, a, b⟩ := R; exact ⟨r, a, f _ _ b fun z => n _ z _ b⟩
theorem ChAt.ap {v : V} {fp : List Addr} {q : Option ChoiceS} (R : ChAt H v fp q) (f : Fr S H H') (w : Wrs H S) (n : Ap fp S) : ChAt H' v fp q := by
  cases q with
  | none => exact R
  | some q => obtain ⟨r, l, a, rfl, c, d⟩ := R; exact ⟨r, l, a, rfl, f _ _ c fun z => w.nt _ z _ c, f _ _ d (n l (by simp))⟩
theorem KeAt.ap {v : V} {fp : List Addr} {q : Option (List Str)} (R : KeAt H v fp q) (f : Fr S H H') (w : Wrs H S) (n : Ap fp S) : KeAt H' v fp q := by
  cases q with
  | none => exact R
  | some q => obtain ⟨k, a, rfl, c⟩ := R; exact ⟨k, a, rfl, f _ _ c (n k (by simp))⟩
/-! what is alive, and may change -/
theorem RingAt.wr {p l : Addr} {m s : Int} {ts : List Str} (R : RingAt K H p l m ts s) : Wrs H [p, l] ∧ Alive H [p, l] := by
  obtain ⟨⟨dx, e⟩, e1⟩ := R
  refine ⟨.cons (.ins e) (.cons (.lst e1) wrs_nil), fun y hy => ?_⟩
  simp only [List.mem_cons, List.not_mem_nil, or_false] at hy
  rcases hy with rfl | rfl
  · rw [e]; simp
  · rw [e1]; simp
theorem HistAt.wr {p lk ls : Addr} {m s : Int} {ks ss : List Str} (R : HistAt K H p lk ls m ks ss s) : Wrs H [p, lk, ls] ∧ Alive H [p, lk, ls] := by
  obtain ⟨⟨dx, e⟩, e1, e2, _⟩ := R
  refine ⟨.cons (.ins e) (.cons (.lst e1) (.cons (.lst e2) wrs_nil)), fun y hy => ?_⟩
  simp only [List.mem_cons, List.not_mem_nil, or_false] at hy
  rcases hy with rfl | rfl | rfl
  · rw [e]; simp
  · rw [e1]; simp
  · rw [e2]; simp
theorem FillAt.wr {p l : Addr} {ws : List Str} (R : FillAt K H p l ws) : Wrs H [p, l] ∧ Alive H [p, l] := by
  obtain ⟨⟨dx, e⟩, e1⟩ := R
  refine ⟨.cons (.ins e) (.cons (.lst e1) wrs_nil), fun y hy => ?_⟩
  simp only [List.mem_cons, List.not_mem_nil, or_false] at hy
  rcases hy with rfl | rfl
  · rw [e]; simp
  · rw [e1]; simp
theorem wr1_ins {p C dx : Addr} {fs : List (Str × V)} (e : H p = some (.ins C dx fs)) : Wrs H [p] ∧ Alive H [p] := ⟨.cons (.ins e) wrs_nil, fun y hy => by rw [List.mem_singleton.mp hy, e]; simp⟩
theorem wr1_lst {p : Addr} {xs : List V} (e : H p = some (.lst xs)) : Wrs H [p] ∧ Alive H [p] := ⟨.cons (.lst e) wrs_nil, fun y hy => by rw [List.mem_singleton.mp hy, e]; simp⟩
theorem SrAt.wr {v : V} {fp : List Addr} {q : Option SrchS} (R : SrAt K H v fp q) : Wrs H fp ∧ Alive H fp := by
  cases q with
  | none => obtain ⟨_, rfl⟩ := R; exact ⟨wrs_nil, fun _ h => nomatch h⟩
  | some q =>
    obtain ⟨ps, st, _, rfl, ⟨dx, r, e, _⟩, rs, e1, _⟩ := R
    refine ⟨.cons (.ins e) (.cons (.lst e1) wrs_nil), fun y hy => ?_⟩
    simp only [List.mem_cons, List.not_mem_nil, or_false] at hy
    rcases hy with rfl | rfl
    · rw [e]; simp
    · rw [e1]; simp
theorem ChAt.wr {v : V} {fp : List Addr} {q : Option ChoiceS} (R : ChAt H v fp q) : Wrs H fp ∧ Alive H fp := by
  cases q with
  | none => obtain ⟨_, rfl⟩ := R; exact ⟨wrs_nil, fun _ h => nomatch h⟩
  | some q => obtain ⟨r, l, _, rfl, _, e⟩ := R; exact wr1_lst e
theorem KeAt.wr {v : V} {fp : List Addr} {q : Option (List Str)} (R : KeAt H v fp q) : Wrs H fp ∧ Alive H fp := by
  cases q with
  | none => obtain ⟨_, rfl⟩ := R; exact ⟨wrs_nil, fun _ h => nomatch h⟩
  | some q => obtain ⟨l, _, rfl, e⟩ := R; exact wr1_lst e
/-! lists of blocks, all apart -/
theorem pw_get {Bs : List (List Addr)} {i j : Nat} {F G : List Addr} (h : Bs.Pairwise Ap) (n : i ≠ j) (hi : Bs[i]? = some F) (hj : Bs[j]? = some G) : Ap F G := by
  rw [List.getElem?_eq_some_iff] at hi hj
  obtain ⟨li, ei⟩ := hi
  obtain ⟨lj, ej⟩ := hj
  rw [List.pairwise_iff_getElem] at h
  rcases Nat.lt_or_gt_of_ne n with q | q
  · have := h i j li lj q; rw [ei, ej] at this; exact this
  · have := h j i lj li q; rw [ei, ej] at this; exact this.symm
theorem pw_put {Bs : List (List Addr)} {i : Nat} {F : List Addr} (h : Bs.Pairwise Ap) (g : ∀ j G, Bs[j]? = some G → j ≠ i → Ap F G) : (Bs.set i F).Pairwise Ap := by
  rw [List.pairwise_iff_getElem] at h ⊢
  intro a b ha hb hab
  rw [List.length_set] at ha hb
  rw [List.getElem_set, List.getElem_set]
  by_cases e1 : i = a
  · have e2 : ¬ i = b := by omega
    rw [if_pos e1, if_neg e2]
    exact g b _ (List.getElem?_eq_getElem hb) (by omega)
  · rw [if_neg e1]
    by_cases e2 : i = b
    · rw [if_pos e2]
      exact (g a _ (List.getElem?_eq_getElem ha) (by omega)).symm
    · rw [if_neg e2]; exact h a b ha hb hab
theorem pw_set {Bs Bs' : List (List Addr)} {i : Nat} {F F' : List Addr} (h : Bs.Pairwise Ap) (hi : Bs[i]? = some F ∧ Bs.set i F' = Bs') (g : Nw H F F') (al : ∀ b ∈ Bs, Alive H b) : Bs'.Pairwise Ap := by
  rw [← hi.2]
  exact pw_put h fun j G hj n => (pw_get h (Ne.symm n) hi.1 hj).new g (al G (List.mem_of_getElem? hj))
theorem pw_new {Bs Bs' : List (List Addr)} {i : Nat} {F' : List Addr} (h : Bs.Pairwise Ap) (hi : Bs.set i F' = Bs') (nx : ∀ y ∈ F', y ∉ Bs.flatten) : Bs'.Pairwise Ap := by
  rw [← hi]
  exact pw_put h fun j G hj n y hy hz => nx y hy (List.mem_flatten.mpr ⟨G, List.mem_of_getElem? hj, hz⟩)
theorem fl_set {Bs : List (List Addr)} {i : Nat} {F' : List Addr} {y : Addr} (hy : y ∈ (Bs.set i F').flatten) : y ∈ Bs.flatten ∨ y ∈ F' := by
  obtain ⟨G, hG, hy⟩ := List.mem_flatten.mp hy
  rcases List.mem_or_eq_of_mem_set hG with z | z
  · exact .inl (List.mem_flatten.mpr ⟨G, z, hy⟩)
  · exact .inr (z ▸ hy)
theorem mv_set {Bs Bs' : List (List Addr)} {i : Nat} {F F' : List Addr} (hi : Bs[i]? = some F ∧ Bs.set i F' = Bs') (f : Fr F H H') (g : Nw H F F') : Mv H H' Bs.flatten Bs'.flatten := by
  have sub : ∀ y ∈ F, y ∈ Bs.flatten := fun y hy => List.mem_flatten.mpr ⟨F, List.mem_of_getElem? hi.1, hy⟩
  refine ⟨f.mono sub, fun y hy => ?_⟩
  rw [← hi.2] at hy
  rcases fl_set hy with z | z
  · exact .inl z
  · exact (g y z).imp (sub y) id
end
section
variable {K : PySem.W.Frag} {H H' : Hp} {p : Addr} {A : HA} {S : HS}
theorem HandAt.apart {i j : Nat} {F G : List Addr} (h : HandAt K H p A S) (n : i ≠ j) (hi : (A.bs p)[i]? = some F) (hj : (A.bs p)[j]? = some G) : Ap F G := pw_get h.pw n hi hj
theorem HandAt.p_mem (h : HandAt K H p A S) : p ∈ A.X p := List.mem_flatten.mpr ⟨[p], by simp [HA.bs], by simp⟩
theorem HandAt.each (h : HandAt K H p A S) : ∀ F ∈ A.bs p, Wrs H F ∧ Alive H F := by
  intro F hF
  simp only [HA.bs, List.mem_cons, List.not_mem_nil, or_false] at hF
  rcases hF with rfl | rfl | rfl | rfl | rfl | rfl | rfl | rfl | rfl | rfl | rfl
  · exact wr1_ins h.ob
  · exact ⟨h.li.wr, h.li.alive⟩
  · exact h.ri.wr
  · exact h.hi.wr
  · exact h.fi.wr
  · obtain ⟨dx, e⟩ := h.wi; exact wr1_ins e
  · exact wr1_lst h.en
  · exact wr1_lst h.ma
  · exact h.sr.wr
  · exact h.ch.wr
  · exact h.ke.wr
theorem HandAt.alive {b : List Addr} (h : HandAt K H p A S) (hb : b ∈ A.bs p) : Alive H b := (h.each b hb).2
theorem HandAt.wr {i : Nat} {F : List Addr} (h : HandAt K H p A S) (hi : (A.bs p)[i]? = some F) : Wrs H F := (h.each F (List.mem_of_getElem? hi)).1
theorem HandAt.wrX (h : HandAt K H p A S) : Wrs H (A.X p) := fun y hy => by
  obtain ⟨F, hF, hy⟩ := List.mem_flatten.mp hy
  exact (h.each F hF).1 y hy
theorem HandAt.aliveX (h : HandAt K H p A S) : Alive H (A.X p) := fun y hy => by
  obtain ⟨F, hF, hy⟩ := List.mem_flatten.mp hy
  exact (h.each F hF).2 y hy
theorem HandAt.fresh (h : HandAt K H p A S) {y : Addr} (hy : H y = none) : y ∉ A.X p := fun z => h.aliveX y z hy
/-- a change elsewhere -/
theorem HandAt.ap {T : List Addr} (h : HandAt K H p A S) (f : Fr T H H') (w : Wrs H T) (n : Ap (A.X p) T) : HandAt K H' p A S := by
  have nb : ∀ {i : Nat} {F : List Addr}, (A.bs p)[i]? = some F → Ap F T := fun hi y hy => n y (List.mem_flatten.mpr ⟨_, List.mem_of_getElem? hi, hy⟩)
  exact ⟨f _ _ h.ob (nb (i := 0) rfl p (by simp)), h.li.ap f w (nb (i := 1) rfl), h.ri.ap f w (nb (i := 2) rfl), h.hi.ap f w (nb (i := 3) rfl), h.fi.ap f w (nb (i := 4) rfl), h.wi.ap f w (nb (i := 5) rfl), f _ _ h.en (nb (i := 6) rfl _ (by simp [HA.fE])), f _ _ h.ma (nb (i := 7) rfl _ (by simp [HA.fM])), h.sr.ap f w (nb (i := 8) rfl), h.ya.nt f w.nt, h.ch.ap f w (nb (i := 9) rfl), h.ke.ap f w (nb (i := 10) rfl), h.pw⟩
theorem HandAt.same (h : HandAt K H p A S) (s : Same H H') : HandAt K H' p A S := h.ap (T := []) (Fr.same s) wrs_nil fun _ _ z => nomatch z
theorem HandAt.line (h : HandAt K H p A S) (f : Fr A.fL H H') {lb ll : Addr} {L : LineS} (R : LineAt K H' A.pl lb ll L) (g : Nw H A.fL [A.pl, lb, ll]) : HandAt K H' p { A with lb := lb, ll := ll } { S with line := L } ∧ Mq H H' p A { A with lb := lb, ll := ll } := by
  have w : Wrs H A.fL := h.wr (i := 1) rfl
  refine ⟨⟨f _ _ h.ob ((h.apart (i := 0) (j := 1) (by decide) rfl rfl) p (by simp)), R, h.ri.ap f w (h.apart (i := 2) (j := 1) (by decide) rfl rfl), h.hi.ap f w (h.apart (i := 3) (j := 1) (by decide) rfl rfl), h.fi.ap f w (h.apart (i := 4) (j := 1) (by decide) rfl rfl), h.wi.ap f w (h.apart (i := 5) (j := 1) (by decide) rfl rfl), f _ _ h.en ((h.apart (i := 6) (j := 1) (by decide) rfl rfl) A.el (by simp [HA.fE])), f _ _ h.ma ((h.apart (i := 7) (j := 1) (by decide) rfl rfl) A.ml (by simp [HA.fM])), h.sr.ap f w (h.apart (i := 8) (j := 1) (by decide) rfl rfl), h.ya.nt f w.nt, h.ch.ap f w (h.apart (i := 9) (j := 1) (by decide) rfl rfl), h.ke.ap f w (h.apart (i := 10) (j := 1) (by decide) rfl rfl), ?_⟩, ?_⟩
  · exact pw_set (i := 1) h.pw ⟨rfl, rfl⟩ g fun b hb => h.alive hb
  · exact ⟨mv_set (i := 1) (Bs := A.bs p) ⟨rfl, rfl⟩ f g, rfl⟩
theorem HandAt.ringed (h : HandAt K H p A S) (f : Fr A.fR H H') {rl : Addr} {r : RingS} (R : RingAt K H' A.pr rl 10 r.ts r.spot) (g : Nw H A.fR [A.pr, rl]) : HandAt K H' p { A with rl := rl } { S with ring := r } ∧ Mq H H' p A { A with rl := rl } := by
  have w : Wrs H A.fR := h.wr (i := 2) rfl
  refine ⟨⟨f _ _ h.ob ((h.apart (i := 0) (j := 2) (by decide) rfl rfl) p (by simp)), h.li.ap f w (h.apart (i := 1) (j := 2) (by decide) rfl rfl), R, h.hi.ap f w (h.apart (i := 3) (j := 2) (by decide) rfl rfl), h.fi.ap f w (h.apart (i := 4) (j := 2) (by decide) rfl rfl), h.wi.ap f w (h.apart (i := 5) (j := 2) (by decide) rfl rfl), f _ _ h.en ((h.apart (i := 6) (j := 2) (by decide) rfl rfl) A.el (by simp [HA.fE])), f _ _ h.ma ((h.apart (i := 7) (j := 2) (by decide) rfl rfl) A.ml (by simp [HA.fM])), h.sr.ap f w (h.apart (i := 8) (j := 2) (by decide) rfl rfl), h.ya.nt f w.nt, h.ch.ap f w (h.apart (i := 9) (j := 2) (by decide) rfl rfl), h.ke.ap f w (h.apart (i := 10) (j := 2) (by decide) rfl rfl), ?_⟩, ?_⟩
  · exact pw_set (i := 2) h.pw ⟨rfl, rfl⟩ g fun b hb => h.alive hb
  · exact ⟨mv_set (i := 2) (Bs := A.bs p) ⟨rfl, rfl⟩ f g, rfl⟩
theorem HandAt.history (h : HandAt K H p A S) (f : Fr A.fH H H') {hk hs : Addr} {q : HistS} (R : HistAt K H' A.ph hk hs 50 q.kept q.shown q.spot) (g : Nw H A.fH [A.ph, hk, hs]) : HandAt K H' p { A with hk := hk, hs := hs } { S with hist := q } ∧ Mq H H' p A { A with hk := hk, hs := hs } := by
  have w : Wrs H A.fH := h.wr (i := 3) rfl
  refine ⟨⟨f _ _ h.ob ((h.apart (i := 0) (j := 3) (by decide) rfl rfl) p (by simp)), h.li.ap f w (h.apart (i := 1) (j := 3) (by decide) rfl rfl), h.ri.ap f w (h.apart (i := 2) (j := 3) (by decide) rfl rfl), R, h.fi.ap f w (h.apart (i := 4) (j := 3) (by decide) rfl rfl), h.wi.ap f w (h.apart (i := 5) (j := 3) (by decide) rfl rfl), f _ _ h.en ((h.apart (i := 6) (j := 3) (by decide) rfl rfl) A.el (by simp [HA.fE])), f _ _ h.ma ((h.apart (i := 7) (j := 3) (by decide) rfl rfl) A.ml (by simp [HA.fM])), h.sr.ap f w (h.apart (i := 8) (j := 3) (by decide) rfl rfl), h.ya.nt f w.nt, h.ch.ap f w (h.apart (i := 9) (j := 3) (by decide) rfl rfl), h.ke.ap f w (h.apart (i := 10) (j := 3) (by decide) rfl rfl), ?_⟩, ?_⟩
  · exact pw_set (i := 3) h.pw ⟨rfl, rfl⟩ g fun b hb => h.alive hb
  · exact ⟨mv_set (i := 3) (Bs := A.bs p) ⟨rfl, rfl⟩ f g, rfl⟩
theorem HandAt.windowed (h : HandAt K H p A S) (f : Fr A.fW H H') {v : Int} (R : WinAt K H' A.pw S.w v) (g : Nw H A.fW [A.pw]) : HandAt K H' p A { S with f := v } ∧ Mq H H' p A A := by
  have w : Wrs H A.fW := h.wr (i := 5) rfl
  refine ⟨⟨f _ _ h.ob ((h.apart (i := 0) (j := 5) (by decide) rfl rfl) p (by simp)), h.li.ap f w (h.apart (i := 1) (j := 5) (by decide) rfl rfl), h.ri.ap f w (h.apart (i := 2) (j := 5) (by decide) rfl rfl), h.hi.ap f w (h.apart (i := 3) (j := 5) (by decide) rfl rfl), h.fi.ap f w (h.apart (i := 4) (j := 5) (by decide) rfl rfl), R, f _ _ h.en ((h.apart (i := 6) (j := 5) (by decide) rfl rfl) A.el (by simp [HA.fE])), f _ _ h.ma ((h.apart (i := 7) (j := 5) (by decide) rfl rfl) A.ml (by simp [HA.fM])), h.sr.ap f w (h.apart (i := 8) (j := 5) (by decide) rfl rfl), h.ya.nt f w.nt, h.ch.ap f w (h.apart (i := 9) (j := 5) (by decide) rfl rfl), h.ke.ap f w (h.apart (i := 10) (j := 5) (by decide) rfl rfl), ?_⟩, ?_⟩
  · exact pw_set (i := 5) h.pw ⟨rfl, rfl⟩ g fun b hb => h.alive hb
  · exact ⟨mv_set (i := 5) (Bs := A.bs p) ⟨rfl, rfl⟩ f g, rfl⟩
theorem HandAt.enteredP (h : HandAt K H p A S) (f : Fr A.fE H H') {l : List Str} (R : H' A.el = some (.lst (l.map V.str))) (g : Nw H A.fE [A.el]) : HandAt K H' p A { S with ent := l } ∧ Mq H H' p A A := by
  have w : Wrs H A.fE := h.wr (i := 6) rfl
  refine ⟨⟨f _ _ h.ob ((h.apart (i := 0) (j := 6) (by decide) rfl rfl) p (by simp)), h.li.ap f w (h.apart (i := 1) (j := 6) (by decide) rfl rfl), h.ri.ap f w (h.apart (i := 2) (j := 6) (by decide) rfl rfl), h.hi.ap f w (h.apart (i := 3) (j := 6) (by decide) rfl rfl), h.fi.ap f w (h.apart (i := 4) (j := 6) (by decide) rfl rfl), h.wi.ap f w (h.apart (i := 5) (j := 6) (by decide) rfl rfl), R, f _ _ h.ma ((h.apart (i := 7) (j := 6) (by decide) rfl rfl) A.ml (by simp [HA.fM])), h.sr.ap f w (h.apart (i := 8) (j := 6) (by decide) rfl rfl), h.ya.nt f w.nt, h.ch.ap f w (h.apart (i := 9) (j := 6) (by decide) rfl rfl), h.ke.ap f w (h.apart (i := 10) (j := 6) (by decide) rfl rfl), ?_⟩, ?_⟩
  · exact pw_set (i := 6) h.pw ⟨rfl, rfl⟩ g fun b hb => h.alive hb
  · exact ⟨mv_set (i := 6) (Bs := A.bs p) ⟨rfl, rfl⟩ f g, rfl⟩
theorem HandAt.sought (h : HandAt K H p A S) (f : Fr A.sfp H H') {fp : List Addr} {q : Option SrchS} (R : SrAt K H' A.sv fp q) (g : Nw H A.sfp fp) : HandAt K H' p { A with sfp := fp } { S with srch := q } ∧ Mq H H' p A { A with sfp := fp } := by
  have w : Wrs H A.sfp := h.wr (i := 8) rfl
  refine ⟨⟨f _ _ h.ob ((h.apart (i := 0) (j := 8) (by decide) rfl rfl) p (by simp)), h.li.ap f w (h.apart (i := 1) (j := 8) (by decide) rfl rfl), h.ri.ap f w (h.apart (i := 2) (j := 8) (by decide) rfl rfl), h.hi.ap f w (h.apart (i := 3) (j := 8) (by decide) rfl rfl), h.fi.ap f w (h.apart (i := 4) (j := 8) (by decide) rfl rfl), h.wi.ap f w (h.apart (i := 5) (j := 8) (by decide) rfl rfl), f _ _ h.en ((h.apart (i := 6) (j := 8) (by decide) rfl rfl) A.el (by simp [HA.fE])), f _ _ h.ma ((h.apart (i := 7) (j := 8) (by decide) rfl rfl) A.ml (by simp [HA.fM])), R, h.ya.nt f w.nt, h.ch.ap f w (h.apart (i := 9) (j := 8) (by decide) rfl rfl), h.ke.ap f w (h.apart (i := 10) (j := 8) (by decide) rfl rfl), ?_⟩, ?_⟩
  · exact pw_set (i := 8) h.pw ⟨rfl, rfl⟩ g fun b hb => h.alive hb
  · exact ⟨mv_set (i := 8) (Bs := A.bs p) ⟨rfl, rfl⟩ f g, rfl⟩
theorem HandAt.put_cut (h : HandAt K H p A S) (b : Bool) : HandAt K (upd H p (.ins (He.ga K "Hand") A.dx (putF "last_cut" (.bl b) (handF A S.cut S.times)))) p A { S with cut := b } := by
  have w : Wrs H [p] := h.wr (i := 0) rfl
  have f : Fr [p] H (upd H p (.ins (He.ga K "Hand") A.dx (putF "last_cut" (.bl b) (handF A S.cut S.times)))) := Fr.upd Fr.refl (by simp)
  refine ⟨upd_same, h.li.ap f w (h.apart (i := 1) (j := 0) (by decide) rfl rfl), h.ri.ap f w (h.apart (i := 2) (j := 0) (by decide) rfl rfl), h.hi.ap f w (h.apart (i := 3) (j := 0) (by decide) rfl rfl), h.fi.ap f w (h.apart (i := 4) (j := 0) (by decide) rfl rfl), h.wi.ap f w (h.apart (i := 5) (j := 0) (by decide) rfl rfl), f _ _ h.en ((h.apart (i := 6) (j := 0) (by decide) rfl rfl) A.el (by simp [HA.fE])), f _ _ h.ma ((h.apart (i := 7) (j := 0) (by decide) rfl rfl) A.ml (by simp [HA.fM])), h.sr.ap f w (h.apart (i := 8) (j := 0) (by decide) rfl rfl), h.ya.nt f w.nt, h.ch.ap f w (h.apart (i := 9) (j := 0) (by decide) rfl rfl), h.ke.ap f w (h.apart (i := 10) (j := 0) (by decide) rfl rfl), ?_⟩
  exact h.pw
theorem HandAt.put_times (h : HandAt K H p A S) (k : Option Int) : HandAt K (upd H p (.ins (He.ga K "Hand") A.dx (putF "times" (tiV k) (handF A S.cut S.times)))) p A { S with times := k } := by
  have w : Wrs H [p] := h.wr (i := 0) rfl
  have f : Fr [p] H (upd H p (.ins (He.ga K "Hand") A.dx (putF "times" (tiV k) (handF A S.cut S.times)))) := Fr.upd Fr.refl (by simp)
  refine ⟨upd_same, h.li.ap f w (h.apart (i := 1) (j := 0) (by decide) rfl rfl), h.ri.ap f w (h.apart (i := 2) (j := 0) (by decide) rfl rfl), h.hi.ap f w (h.apart (i := 3) (j := 0) (by decide) rfl rfl), h.fi.ap f w (h.apart (i := 4) (j := 0) (by decide) rfl rfl), h.wi.ap f w (h.apart (i := 5) (j := 0) (by decide) rfl rfl), f _ _ h.en ((h.apart (i := 6) (j := 0) (by decide) rfl rfl) A.el (by simp [HA.fE])), f _ _ h.ma ((h.apart (i := 7) (j := 0) (by decide) rfl rfl) A.ml (by simp [HA.fM])), h.sr.ap f w (h.apart (i := 8) (j := 0) (by decide) rfl rfl), h.ya.nt f w.nt, h.ch.ap f w (h.apart (i := 9) (j := 0) (by decide) rfl rfl), h.ke.ap f w (h.apart (i := 10) (j := 0) (by decide) rfl rfl), ?_⟩
  exact h.pw
theorem HandAt.put_yank (h : HandAt K H p A S) {v : V} {y : Option (Int × Int)} (R : YaAt H v y) : HandAt K (upd H p (.ins (He.ga K "Hand") A.dx (putF "yanked" v (handF A S.cut S.times)))) p { A with yv := v } { S with yank := y } := by
  have w : Wrs H [p] := h.wr (i := 0) rfl
  have f : Fr [p] H (upd H p (.ins (He.ga K "Hand") A.dx (putF "yanked" v (handF A S.cut S.times)))) := Fr.upd Fr.refl (by simp)
  refine ⟨upd_same, h.li.ap f w (h.apart (i := 1) (j := 0) (by decide) rfl rfl), h.ri.ap f w (h.apart (i := 2) (j := 0) (by decide) rfl rfl), h.hi.ap f w (h.apart (i := 3) (j := 0) (by decide) rfl rfl), h.fi.ap f w (h.apart (i := 4) (j := 0) (by decide) rfl rfl), h.wi.ap f w (h.apart (i := 5) (j := 0) (by decide) rfl rfl), f _ _ h.en ((h.apart (i := 6) (j := 0) (by decide) rfl rfl) A.el (by simp [HA.fE])), f _ _ h.ma ((h.apart (i := 7) (j := 0) (by decide) rfl rfl) A.ml (by simp [HA.fM])), h.sr.ap f w (h.apart (i := 8) (j := 0) (by decide) rfl rfl), R.nt f w.nt, h.ch.ap f w (h.apart (i := 9) (j := 0) (by decide) rfl rfl), h.ke.ap f w (h.apart (i := 10) (j := 0) (by decide) rfl rfl), ?_⟩
  exact h.pw
theorem HandAt.put_search (h : HandAt K H p A S) {v : V} {fp : List Addr} {q : Option SrchS} (R : SrAt K H v fp q) (nx : ∀ y ∈ fp, y ∉ A.X p) : HandAt K (upd H p (.ins (He.ga K "Hand") A.dx (putF "search" v (handF A S.cut S.times)))) p { A with sv := v, sfp := fp } { S with srch := q } := by
  have w : Wrs H [p] := h.wr (i := 0) rfl
  have f : Fr [p] H (upd H p (.ins (He.ga K "Hand") A.dx (putF "search" v (handF A S.cut S.times)))) := Fr.upd Fr.refl (by simp)
  refine ⟨upd_same, h.li.ap f w (h.apart (i := 1) (j := 0) (by decide) rfl rfl), h.ri.ap f w (h.apart (i := 2) (j := 0) (by decide) rfl rfl), h.hi.ap f w (h.apart (i := 3) (j := 0) (by decide) rfl rfl), h.fi.ap f w (h.apart (i := 4) (j := 0) (by decide) rfl rfl), h.wi.ap f w (h.apart (i := 5) (j := 0) (by decide) rfl rfl), f _ _ h.en ((h.apart (i := 6) (j := 0) (by decide) rfl rfl) A.el (by simp [HA.fE])), f _ _ h.ma ((h.apart (i := 7) (j := 0) (by decide) rfl rfl) A.ml (by simp [HA.fM])), R.ap f w (fun y hy z => nx y hy (List.mem_singleton.mp z ▸ h.p_mem)), h.ya.nt f w.nt, h.ch.ap f w (h.apart (i := 9) (j := 0) (by decide) rfl rfl), h.ke.ap f w (h.apart (i := 10) (j := 0) (by decide) rfl rfl), ?_⟩
  exact pw_new (i := 8) h.pw rfl nx
theorem HandAt.put_choice (h : HandAt K H p A S) {v : V} {fp : List Addr} {q : Option ChoiceS} (R : ChAt H v fp q) (nx : ∀ y ∈ fp, y ∉ A.X p) : HandAt K (upd H p (.ins (He.ga K "Hand") A.dx (putF "choice" v (handF A S.cut S.times)))) p { A with cv := v, cfp := fp } { S with choice := q } := by
  have w : Wrs H [p] := h.wr (i := 0) rfl
  have f : Fr [p] H (upd H p (.ins (He.ga K "Hand") A.dx (putF "choice" v (handF A S.cut S.times)))) := Fr.upd Fr.refl (by simp)
  refine ⟨upd_same, h.li.ap f w (h.apart (i := 1) (j := 0) (by decide) rfl rfl), h.ri.ap f w (h.apart (i := 2) (j := 0) (by decide) rfl rfl), h.hi.ap f w (h.apart (i := 3) (j := 0) (by decide) rfl rfl), h.fi.ap f w (h.apart (i := 4) (j := 0) (by decide) rfl rfl), h.wi.ap f w (h.apart (i := 5) (j := 0) (by decide) rfl rfl), f _ _ h.en ((h.apart (i := 6) (j := 0) (by decide) rfl rfl) A.el (by simp [HA.fE])), f _ _ h.ma ((h.apart (i := 7) (j := 0) (by decide) rfl rfl) A.ml (by simp [HA.fM])), h.sr.ap f w (h.apart (i := 8) (j := 0) (by decide) rfl rfl), h.ya.nt f w.nt, R.ap f w (fun y hy z => nx y hy (List.mem_singleton.mp z ▸ h.p_mem)), h.ke.ap f w (h.apart (i := 10) (j := 0) (by decide) rfl rfl), ?_⟩
  exact pw_new (i := 9) h.pw rfl nx
theorem HandAt.put_kept (h : HandAt K H p A S) {v : V} {fp : List Addr} {q : Option (List Str)} (R : KeAt H v fp q) (nx : ∀ y ∈ fp, y ∉ A.X p) : HandAt K (upd H p (.ins (He.ga K "Hand") A.dx (putF "keys_kept" v (handF A S.cut S.times)))) p { A with kv := v, kfp := fp } { S with kept := q } := by
  have w : Wrs H [p] := h.wr (i := 0) rfl
  have f : Fr [p] H (upd H p (.ins (He.ga K "Hand") A.dx (putF "keys_kept" v (handF A S.cut S.times)))) := Fr.upd Fr.refl (by simp)
  refine ⟨upd_same, h.li.ap f w (h.apart (i := 1) (j := 0) (by decide) rfl rfl), h.ri.ap f w (h.apart (i := 2) (j := 0) (by decide) rfl rfl), h.hi.ap f w (h.apart (i := 3) (j := 0) (by decide) rfl rfl), h.fi.ap f w (h.apart (i := 4) (j := 0) (by decide) rfl rfl), h.wi.ap f w (h.apart (i := 5) (j := 0) (by decide) rfl rfl), f _ _ h.en ((h.apart (i := 6) (j := 0) (by decide) rfl rfl) A.el (by simp [HA.fE])), f _ _ h.ma ((h.apart (i := 7) (j := 0) (by decide) rfl rfl) A.ml (by simp [HA.fM])), h.sr.ap f w (h.apart (i := 8) (j := 0) (by decide) rfl rfl), h.ya.nt f w.nt, h.ch.ap f w (h.apart (i := 9) (j := 0) (by decide) rfl rfl), R.ap f w (fun y hy z => nx y hy (List.mem_singleton.mp z ▸ h.p_mem)), ?_⟩
  exact pw_new (i := 10) h.pw rfl nx
theorem HandAt.put_line (h : HandAt K H p A S) {pl lb ll : Addr} {L : LineS} (R : LineAt K H pl lb ll L) (nx : ∀ y ∈ [pl, lb, ll], y ∉ A.X p) : HandAt K (upd H p (.ins (He.ga K "Hand") A.dx (putF "line" (.ref pl) (handF A S.cut S.times)))) p { A with pl := pl, lb := lb, ll := ll } { S with line := L } := by
  have w : Wrs H [p] := h.wr (i := 0) rfl
  have f : Fr [p] H (upd H p (.ins (He.ga K "Hand") A.dx (putF "line" (.ref pl) (handF A S.cut S.times)))) := Fr.upd Fr.refl (by simp)
  refine ⟨upd_same, R.ap f w (fun y hy z => nx y hy (List.mem_singleton.mp z ▸ h.p_mem)), h.ri.ap f w (h.apart (i := 2) (j := 0) (by decide) rfl rfl), h.hi.ap f w (h.apart (i := 3) (j := 0) (by decide) rfl rfl), h.fi.ap f w (h.apart (i := 4) (j := 0) (by decide) rfl rfl), h.wi.ap f w (h.apart (i := 5) (j := 0) (by decide) rfl rfl), f _ _ h.en ((h.apart (i := 6) (j := 0) (by decide) rfl rfl) A.el (by simp [HA.fE])), f _ _ h.ma ((h.apart (i := 7) (j := 0) (by decide) rfl rfl) A.ml (by simp [HA.fM])), h.sr.ap f w (h.apart (i := 8) (j := 0) (by decide) rfl rfl), h.ya.nt f w.nt, h.ch.ap f w (h.apart (i := 9) (j := 0) (by decide) rfl rfl), h.ke.ap f w (h.apart (i := 10) (j := 0) (by decide) rfl rfl), ?_⟩
  exact pw_new (i := 1) h.pw rfl nx
theorem HandAt.put_choice2 (h : HandAt K H p A S) {v : V} {q : Option ChoiceS} (R : ChAt H v A.cfp q) : HandAt K (upd H p (.ins (He.ga K "Hand") A.dx (putF "choice" v (handF A S.cut S.times)))) p { A with cv := v } { S with choice := q } := by
  have w : Wrs H [p] := h.wr (i := 0) rfl
  have f : Fr [p] H (upd H p (.ins (He.ga K "Hand") A.dx (putF "choice" v (handF A S.cut S.times)))) := Fr.upd Fr.refl (by simp)
  refine ⟨upd_same, h.li.ap f w (h.apart (i := 1) (j := 0) (by decide) rfl rfl), h.ri.ap f w (h.apart (i := 2) (j := 0) (by decide) rfl rfl), h.hi.ap f w (h.apart (i := 3) (j := 0) (by decide) rfl rfl), h.fi.ap f w (h.apart (i := 4) (j := 0) (by decide) rfl rfl), h.wi.ap f w (h.apart (i := 5) (j := 0) (by decide) rfl rfl), f _ _ h.en ((h.apart (i := 6) (j := 0) (by decide) rfl rfl) A.el (by simp [HA.fE])), f _ _ h.ma ((h.apart (i := 7) (j := 0) (by decide) rfl rfl) A.ml (by simp [HA.fM])), h.sr.ap f w (h.apart (i := 8) (j := 0) (by decide) rfl rfl), h.ya.nt f w.nt, R.ap f w (h.apart (i := 9) (j := 0) (by decide) rfl rfl), h.ke.ap f w (h.apart (i := 10) (j := 0) (by decide) rfl rfl), ?_⟩
  exact h.pw
/-- what was kept is what is played -/
theorem HandAt.put_stop {l : List Str} {kl : Addr} (h : HandAt K H p A S) (hk : S.kept = some l) (hv : A.kv = .ref kl) : HandAt K (upd (upd H p (.ins (He.ga K "Hand") A.dx (putF "macro" (.ref kl) (handF A S.cut S.times)))) p (.ins (He.ga K "Hand") A.dx (putF "keys_kept" .non (putF "macro" (.ref kl) (handF A S.cut S.times))))) p { A with ml := kl, kv := .non, kfp := [] } { S with mac := l, kept := none } := by
  have w : Wrs H [p] := h.wr (i := 0) rfl
  have f : Fr [p] H (upd (upd H p (.ins (He.ga K "Hand") A.dx (putF "macro" (.ref kl) (handF A S.cut S.times)))) p (.ins (He.ga K "Hand") A.dx (putF "keys_kept" .non (putF "macro" (.ref kl) (handF A S.cut S.times))))) := Fr.upd (Fr.upd Fr.refl (by simp)) (by simp)
  obtain ⟨k1, e1, e2, e3⟩ : KeAt H A.kv A.kfp (some l) := hk ▸ h.ke
  obtain rfl : kl = k1 := by rw [hv] at e1; injection e1
  have n10 : p ≠ kl := fun z => h.apart (i := 0) (j := 10) (by decide) rfl rfl p (by simp) (by rw [e2]; simp [z])
  have kap : ∀ j G, (A.bs p)[j]? = some G → j ≠ 10 → Ap [kl] G := fun j G hj n => e2 ▸ h.apart (i := 10) (j := j) (Ne.symm n) rfl hj
  refine ⟨upd_same, h.li.ap f w (h.apart (i := 1) (j := 0) (by decide) rfl rfl), h.ri.ap f w (h.apart (i := 2) (j := 0) (by decide) rfl rfl), h.hi.ap f w (h.apart (i := 3) (j := 0) (by decide) rfl rfl), h.fi.ap f w (h.apart (i := 4) (j := 0) (by decide) rfl rfl), h.wi.ap f w (h.apart (i := 5) (j := 0) (by decide) rfl rfl), f _ _ h.en (h.apart (i := 6) (j := 0) (by decide) rfl rfl A.el (by simp [HA.fE])), f _ _ e3 (not_mem1 n10.symm), h.sr.ap f w (h.apart (i := 8) (j := 0) (by decide) rfl rfl), h.ya.nt f w.nt, h.ch.ap f w (h.apart (i := 9) (j := 0) (by decide) rfl rfl), ⟨rfl, rfl⟩, ?_⟩
  have p1 : ((A.bs p).set 10 []).Pairwise Ap := pw_put h.pw fun _ _ _ _ y hy => nomatch hy
  refine pw_put (i := 7) (F := [kl]) p1 fun j G hj n => ?_
  by_cases e : j = 10
  · subst e
    have : G = [] := by
      have q : ((A.bs p).set 10 [])[10]? = some [] := rfl
      rw [q] at hj; exact (Option.some.inj hj).symm
    subst this
    exact fun _ _ z => nomatch z
  · rw [List.getElem?_set_ne (Ne.symm e)] at hj
    exact kap j G hj e
end

/-! ### keys -/
def MOVES : List Str := ["left", "right", "home", "end", "wordleft", "wordright"]
def CUTS : List Str := ["rubword", "delword", "cutend", "cutstart", "cutmark"]
def OTHERS : List Str := ["rub", "del", "yank", "pop", "swap", "great", "small", "cap", "mark", "swapmark", "copymark", "undo", "redo", "up", "down", "search", "fill", "enter", "cancel", "record", "stop", "play"]
def RSP : List Str := ["record", "stop", "play"]
def isFig (key : Str) : Bool := match tl key with
  | [c, d] => decide (c = 35) && (decide (48 ≤ d) && decide (d ≤ 57))
  | _ => false
def isKey (key : Str) : Bool := decide (key ∈ MOVES) || (decide (key ∈ CUTS) || (decide (key ∈ OTHERS) || (isSign key || isFig key)))
theorem inV_str {x : Str} {ys : List Str} : inV (.str x) (ys.map V.str) = decide (x ∈ ys) := by
  unfold inV
  rw [List.any_map]
  induction ys with
  | nil => simp
  | cons m r ih =>
    rw [List.any_cons, ih]
    by_cases h : m = x
    · subst h; simp [eqV]
    · have h' : ¬ x = m := fun z => h z.symm
      simp [eqV, h, h']
/-! ### what keys do -/
/-- text[f:l] -/
def subS (x : Str) (f l : Int) : Str := S (((tl x).drop f.toNat).take (l.toNat - f.toNat))
def goalL (L : LineS) (key : Str) : Int :=
  if key = "left" then max 0 (L.caret - 1) else if key = "right" then min (L.now.length : Int) (L.caret + 1) else if key = "home" then 0 else if key = "end" then (L.now.length : Int)
  else if key = "wordleft" then ((wStart (tl L.now) L.caret.toNat : Nat) : Int) else ((wEnd (tl L.now) L.caret.toNat : Nat) : Int)
def cutRange (L : LineS) (key : Str) : Int × Int :=
  if key = "rubword" then (((wStart (tl L.now) L.caret.toNat : Nat) : Int), L.caret) else if key = "cutstart" then (0, L.caret)
  else if key = "cutmark" then (min L.caret L.mark, max L.caret L.mark)
  else if key = "delword" then (L.caret, ((wEnd (tl L.now) L.caret.toNat : Nat) : Int)) else (L.caret, (L.now.length : Int))
namespace LineS
def recase (L : LineS) (key : Str) : LineS :=
  if S (recL key (tl L.now) L.caret.toNat) = L.now then L.go (wEnd (tl L.now) L.caret.toNat : Nat)
  else L.change L.caret (wEnd (tl L.now) L.caret.toNat : Nat) (subS (S (recL key (tl L.now) L.caret.toNat)) L.caret (wEnd (tl L.now) L.caret.toNat : Nat)) (wEnd (tl L.now) L.caret.toNat : Nat)
def swapAt (L : LineS) : Int := min L.caret ((L.now.length : Int) - 1)
def swap (L : LineS) : LineS :=
  if 0 < L.swapAt then L.change (L.swapAt - 1) (L.swapAt + 1) (S [(tl L.now).getD L.swapAt.toNat 0, (tl L.now).getD (L.swapAt - 1).toNat 0]) (L.swapAt + 1) else L
def take (L : LineS) (key : Str) : LineS :=
  if key = "rub" then (if 0 < L.caret then L.change (L.caret - 1) L.caret "" (L.caret - 1) else L)
  else if key = "del" then (if L.caret < L.now.length then L.change L.caret (L.caret + 1) "" L.caret else L) else L
def undoK (L : LineS) (key : Str) : LineS := if key = "undo" then L.undo.2 else L.redo.2
def swapmark (L : LineS) : LineS := (L.go L.mark).putMark L.caret
def wipe (L : LineS) : LineS := if L.now = "" then L else L.change 0 L.now.length "" 0
end LineS
namespace HistS
def keep (q : HistS) (x : Str) : HistS := { q with shown := q.shown.set q.spot x }
def add (q : HistS) (x : Str) : HistS := ⟨addH 50 x q.kept, addH 50 x q.kept ++ [("" : Str)], (addH 50 x q.kept).length⟩
end HistS
namespace SrchS
def last (q : SrchS) : Ent := q.trail.getLast?.getD ⟨none, false, ""⟩
def here (q : SrchS) : Nat := q.last.at_.getD q.spot
def entry (q : SrchS) (found : Option Nat) : Ent := match found with
  | none => ⟨q.last.at_, true, q.last.part⟩
  | some j => ⟨some j, false, q.part⟩
def note (q : SrchS) (found : Option Nat) (new : Bool) : SrchS := { q with trail := (if new then q.trail else q.trail.dropLast) ++ [q.entry found] }
end SrchS
namespace HS
variable (Z : HS)
def doCut (key : Str) : HS :=
  let r := cutRange Z.line key
  if r.1 = r.2 then { Z with cut := false }
  else { Z with cut := decide (r.1 < r.2), ring := ⟨if Z.cut then joinR 10 (subS Z.line.now r.1 r.2) (decide (key ∈ (["rubword", "cutstart"] : List Str))) Z.ring.ts else pushR 10 (subS Z.line.now r.1 r.2) Z.ring.ts, 0⟩, line := Z.line.change r.1 r.2 "" r.1 }
def putYank (Z : HS) (f l : Int) : HS :=
  let t := meantR0 Z.ring.ts Z.ring.spot
  if (Z.line.now.length : Int) - (l - f) + t.length ≤ 400 ∧ (t ≠ "" ∨ f < l) then { Z with line := Z.line.change f l t (f + t.length), yank := some (f, f + t.length) } else Z
where meantR0 (ts : List Str) (s : Int) : Str := ts.getD s.toNat ""
def turned (Z : HS) : HS := { Z with ring := ⟨Z.ring.ts, if Z.ring.ts = [] then Z.ring.spot else (Z.ring.spot + 1) % (Z.ring.ts.length : Int)⟩ }
def doYank (key : Str) : HS :=
  if key = "yank" then ({ Z with ring := ⟨Z.ring.ts, 0⟩, yank := some (Z.line.caret, Z.line.caret) } : HS).putYank Z.line.caret Z.line.caret
  else match Z.yank with
    | none => Z
    | some y => Z.turned.putYank y.1 y.2
def recall (spot : Int) : HS :=
  if 0 ≤ spot ∧ spot ≤ (Z.hist.kept.length : Int) then { Z with hist := { Z.hist.keep Z.line.now with spot := spot.toNat }, line := LineS.fresh ((Z.hist.keep Z.line.now).shown.getD spot.toNat "") } else Z
def enter : HS := { Z with ent := Z.ent ++ [Z.line.now], hist := Z.hist.add Z.line.now, line := LineS.fresh "" }
def fits (f l : Int) (new : Str) : Bool := decide ((Z.line.now.length : Int) - (l - f) + new.length ≤ 400)
def filled (f l : Int) (new : Str) : HS := if Z.fits f l new then { Z with line := Z.line.change f l new (f + new.length) } else Z
def nextChoice (c : ChoiceS) : HS :=
  let j := (c.k + 1) % c.some_.length
  let y := c.some_.getD j ""
  let l := c.start + (c.some_.getD c.k "").length
  if Z.fits c.start l y then { Z.filled c.start l y with choice := some { c with k := j } } else Z
def fill : HS := match Z.choice with
  | some c => Z.nextChoice c
  | none =>
    let a := Z.line.caret.toNat
    let part := fPart Z.line.now a
    let F := fFit Z.ws part
    let st : Int := ((fStart (tl Z.line.now) a : Nat) : Int)
    if F.length = 1 then Z.filled st Z.line.caret (F.getD 0 "" ++ " ")
    else if fCommon F part ≠ part then Z.filled st Z.line.caret (fCommon F part)
    else if F ≠ [] then { Z with choice := some ⟨st, part :: F, 0⟩ } else Z
def other (key : Str) : HS :=
  if key = "swap" then { Z with line := Z.line.swap }
  else if key = "mark" then { Z with line := Z.line.putMark Z.line.caret }
  else if key = "swapmark" then { Z with line := Z.line.swapmark }
  else if key = "copymark" then { Z with ring := ⟨pushR 10 (subS Z.line.now (min Z.line.caret Z.line.mark) (max Z.line.caret Z.line.mark)) Z.ring.ts, 0⟩ }
  else if key = "search" then { Z with hist := Z.hist.keep Z.line.now, srch := some ⟨Z.line.pic, Z.hist.spot, "", [⟨none, false, ""⟩]⟩ }
  else if key = "fill" then Z.fill
  else if key = "enter" then Z.enter
  else { Z with line := Z.line.wipe }
def once1 (key : Str) : HS :=
  if key ∈ MOVES then { Z with line := Z.line.go (goalL Z.line key) }
  else if key ∈ CUTS then Z.doCut key
  else if key ∈ (["rub", "del"] : List Str) then { Z with line := Z.line.take key }
  else if key ∈ (["yank", "pop"] : List Str) then Z.doYank key
  else if key ∈ (["great", "small", "cap"] : List Str) then { Z with line := Z.line.recase key }
  else if key ∈ (["undo", "redo"] : List Str) then { Z with line := Z.line.undoK key }
  else if key ∈ (["up", "down"] : List Str) then Z.recall ((Z.hist.spot : Int) + (if key = "down" then 1 else -1))
  else Z.other key
def once (key : Str) : HS :=
  if isSign key then (if Z.line.now.length < 400 then { Z with line := Z.line.write key } else Z) else ({ Z with line := Z.line.rest } : HS).once1 key
def again (key : Str) : HS :=
  let Y := Z.once key
  { Y with cut := if key ∈ CUTS then Y.cut else false, yank := if key ∈ (["yank", "pop"] : List Str) then Y.yank else none, choice := if key = "fill" then Y.choice else none, n := Y.n + 1 }
/-- the line that was there at first comes -/
def back (q : SrchS) : HS := { Z with line := (LineS.fresh q.was.txt).show_ q.was, hist := { Z.hist with spot := q.spot } }
def showFound (q : SrchS) : HS := match q.last.at_ with
  | none => Z.back q
  | some j => { Z with hist := { Z.hist with spot := j }, line := (LineS.fresh (Z.hist.kept.getD j "")).go (Txt.find (Z.hist.kept.getD j "") q.last.part) }
def seek (q : SrchS) (always : Bool) : HS :=
  let Y : HS := { Z with srch := some q }
  { (if always || !q.last.lost then Y.showFound q else Y) with cut := false, n := Z.n + 1 }
def searched (q : SrchS) (key : Str) : Bool × HS :=
  if isSign key then (true, Z.seek (({ q with part := q.part ++ key } : SrchS).note (findH Z.hist.kept (q.part ++ key) q.here) true) false)
  else if key = "search" then (true, Z.seek (q.note (findH Z.hist.kept q.part ((q.here : Int) - 1)) false) false)
  else if key = "rub" then (true, Z.seek { q with part := S (tl q.part).dropLast, trail := if 1 < q.trail.length then q.trail.dropLast else q.trail } true)
  else if key = "cancel" then (true, { ({ Z with srch := none } : HS).back q with cut := false, n := Z.n + 1 })
  else (false, { Z with srch := none, n := Z.n + 1 })
/-- one turn -/
def turn (key : Str) : HS := match Z.srch with
  | none => Z.again key
  | some q => let r := Z.searched q key; if r.1 then r.2 else r.2.again key
def turns (key : Str) : Nat → HS → HS
  | 0, Z => Z
  | k + 1, Z => turns key k (Z.turn key)
def figOf (key : Str) : Int := ((tl key).getD 1 0 : Int) - 48
def pressed1 (key : Str) : HS :=
  if isFig key then { Z with times := some (min 99 (10 * Z.times.getD 0 + figOf key)) } else turns key (Z.times.getD 1).toNat { Z with times := none }
def pressed (key : Str) : HS := match Z.srch with
  | none => Z.pressed1 key
  | some q => let r := Z.searched q key; if r.1 then r.2 else r.2.pressed1 key
def presses (Z : HS) (keys : List Str) : HS := keys.foldl pressed Z
def rounds (keys : List Str) : Nat → HS → HS
  | 0, Z => Z
  | k + 1, Z => rounds keys k (Z.presses keys)
def play : HS := match Z.kept with
  | none => rounds Z.mac (Z.times.getD 1).toNat { Z with times := none }
  | some _ => { Z with times := none }
def stop : HS := match Z.kept with
  | none => Z
  | some l => { Z with mac := l, kept := none }
def press (key : Str) : HS :=
  if key = "record" then { Z with kept := some [] } else if key = "stop" then Z.stop else if key = "play" then Z.play
  else ({ Z with kept := Z.kept.map fun l => (l ++ [key]).take 100 } : HS).pressed key
end HS

/-! ### hands that may be -/
structure LOk (L : LineS) (n : Nat) : Prop where
  ok : L.Ok 400
  b : L.before.length ≤ n
  l : L.later.length ≤ n
structure ROk (r : RingS) : Prop where
  t : ∀ t ∈ r.ts, okText t = true
  l : r.ts.length ≤ 10
  s0 : 0 ≤ r.spot
  s1 : r.ts = [] ∨ r.spot < r.ts.length
structure QOk (q : HistS) : Prop where
  k : ∀ t ∈ q.kept, okText t = true
  l : q.kept.length ≤ 50
  s : ∀ t ∈ q.shown, okText t = true
  m : q.shown.length = q.kept.length + 1
  p : q.spot ≤ q.kept.length
structure SOk (q : SrchS) (kept : List Str) (n : Nat) : Prop where
  was : q.was.Ok 400
  spot : q.spot ≤ kept.length
  ne : q.trail ≠ []
  tl : q.trail.length ≤ n + 1
  pl : q.part.length ≤ n
  pp : plainS q.part = true
  es : ∀ e ∈ q.trail, plainS e.part = true ∧ ∀ j, e.at_ = some j → ∃ x, kept[j]? = some x ∧ inS e.part x = true
structure COk (c : ChoiceS) (now : Str) : Prop where
  k : c.k < c.some_.length
  few : c.some_.length ≤ 1000
  t : ∀ t ∈ c.some_, okText t = true
  s : 0 ≤ c.start
  e : c.start + ((c.some_.getD c.k "").length : Int) ≤ now.length
def keysOk (l : List Str) : Prop := l.length ≤ 100 ∧ ∀ k ∈ l, isKey k = true ∧ k ∉ RSP
structure HS.Ok (Z : HS) : Prop where
  li : LOk Z.line Z.n
  ri : ROk Z.ring
  hi : QOk Z.hist
  wo : ∀ t ∈ Z.ws, okText t = true
  wl : Z.ws.length ≤ 200
  w4 : 4 ≤ Z.w
  w400 : Z.w ≤ 400
  f0 : 0 ≤ Z.f
  eo : ∀ t ∈ Z.ent, okText t = true
  el : Z.ent.length ≤ Z.n
  cu : Z.cut = true → ∃ h r, Z.ring.ts = h :: r ∧ h.length + Z.line.now.length ≤ 400
  ti : ∀ k, Z.times = some k → 0 ≤ k ∧ k ≤ 99
  ya : ∀ y, Z.yank = some y → 0 ≤ y.1 ∧ y.1 ≤ y.2 ∧ y.2 ≤ Z.line.now.length
  ch : ∀ c, Z.choice = some c → COk c Z.line.now
  sr : ∀ q, Z.srch = some q → SOk q Z.hist.kept Z.n ∧ Z.yank = none ∧ Z.choice = none
  ke : ∀ l, Z.kept = some l → keysOk l
  ma : keysOk Z.mac
/-! lines -/
section
variable {L : LineS} {n m : Nat}
theorem LOk.mono (h : LOk L n) (k : n ≤ m) : LOk L m := ⟨h.ok, Nat.le_trans h.b k, Nat.le_trans h.l k⟩
theorem LOk.rest (h : LOk L n) : LOk L.rest n := ⟨h.ok.rest, h.b, h.l⟩
theorem LOk.go {a : Int} (h : LOk L n) (p : LineS.place L.now a) : LOk (L.go a) n := ⟨h.ok.go p, h.b, h.l⟩
theorem LOk.putMark {a : Int} (h : LOk L n) (p : LineS.place L.now a) : LOk (L.putMark a) n := ⟨h.ok.putMark p, h.b, h.l⟩
theorem LOk.fresh {x : Str} (h : okText x = true) : LOk (LineS.fresh x) n := ⟨LineS.ok_fresh h (okText_len h), Nat.zero_le _, Nat.zero_le _⟩
theorem LOk.change {f l c : Int} {new : Str} (h : LOk L n) (h0 : 0 ≤ f) (h1 : f ≤ l) (h2 : l ≤ L.now.length) (hn : okText new = true) (hl : (L.now.length : Int) - (l - f) + new.length ≤ 400) (c0 : 0 ≤ c) (c1 : c ≤ (L.now.length : Int) - (l - f) + new.length) : LOk (L.change f l new c) (n + 1) := by
  have q := LineS.change_len (L := L) (x := new) (f := f) (l := l) (c := c)
  have := h.b
  exact ⟨LineS.Ok.change h.ok h0 h1 h2 hn hl hl (Nat.le_refl _) c0 c1, by omega, by omega⟩
theorem LOk.write {x : Str} (h : LOk L n) (hx : isSign x = true) (hl : L.now.length < 400) : LOk (L.write x) (n + 1) := by
  have q := LineS.write_len (L := L) (x := x)
  have := h.b
  have lx : x.length = 1 ∧ okText x = true := by
    unfold isSign at hx
    have e := len_tl x
    split at hx
    · rename_i c hc
      rw [hc] at e
      refine ⟨e, okText_of ?_ (by rw [e]; show 1 ≤ 400; decide)⟩
      rw [hc]; simp [hx]
    · cases hx
  exact ⟨LineS.Ok.write h.ok lx.2 (by omega) (by omega) (Nat.le_refl _), by omega, by omega⟩
theorem LOk.undoK {key : Str} (h : LOk L n) : LOk (L.undoK key) (n + 1) := by
  have := h.b
  have := h.l
  unfold LineS.undoK
  split
  · have q := LineS.undo_len (L := L)
    exact ⟨h.ok.undo, by omega, by omega⟩
  · have q := LineS.redo_len (L := L)
    exact ⟨h.ok.redo, by omega, by omega⟩
theorem LOk.swapmark (h : LOk L n) : LOk L.swapmark n := (h.go h.ok.mark).putMark h.ok.caret
theorem place_goal {key : Str} (h : LOk L n) : LineS.place L.now (goalL L key) := by
  have c := h.ok.caret
  have e := len_tl L.now
  unfold LineS.place at *
  have a1 : L.caret.toNat ≤ (tl L.now).length := by omega
  have w1 := wStart_le (l := tl L.now) (a := L.caret.toNat)
  have w2 := wEnd_le a1
  unfold goalL
  repeat' split
  all_goals omega
theorem cut_range {key : Str} (h : LOk L n) : 0 ≤ (cutRange L key).1 ∧ (cutRange L key).1 ≤ (cutRange L key).2 ∧ (cutRange L key).2 ≤ L.now.length := by
  have c := h.ok.caret
  have mk := h.ok.mark
  have e := len_tl L.now
  unfold LineS.place at *
  have a1 : L.caret.toNat ≤ (tl L.now).length := by omega
  have w1 := wStart_le (l := tl L.now) (a := L.caret.toNat)
  have w2 := wEnd_le a1
  have w3 := wBeg_le a1
  unfold cutRange
  repeat' split
  all_goals (dsimp only; omega)
theorem sub_ok {x : Str} {f l : Int} (h : okText x = true) : okText (subS x f l) = true := by
  have e := len_tl x
  have := okText_len h
  unfold subS
  refine okText_of ?_ (by rw [len_S, List.length_take, List.length_drop]; omega)
  rw [tl_S]
  exact List.all_eq_true.mpr fun c hc => List.all_eq_true.mp (okText_all h) c (List.mem_of_mem_drop (List.mem_of_mem_take hc))
theorem sub_len {x : Str} {f l : Int} (h0 : 0 ≤ f) (h1 : f ≤ l) (h2 : l ≤ x.length) : ((subS x f l).length : Int) = l - f := by
  have e := len_tl x
  unfold subS
  rw [len_S, List.length_take, List.length_drop]; omega
theorem LOk.recase {key : Str} (h : LOk L n) : LOk (L.recase key) (n + 1) := by
  have c := h.ok.caret
  have e := len_tl L.now
  have ok := h.ok.text
  have l4 := okText_len ok
  unfold LineS.place at c
  have a1 : L.caret.toNat ≤ (tl L.now).length := by omega
  have w2 := wEnd_le a1
  have w3 := wBeg_le a1
  have rl : (S (recL key (tl L.now) L.caret.toNat)).length = L.now.length := by rw [len_S, len_recL a1, e]
  have rok : okText (S (recL key (tl L.now) L.caret.toNat)) = true := okText_of (by rw [tl_S]; exact recL_ok a1 (okText_all ok)) (by omega)
  unfold LineS.recase
  split
  · exact (h.go ⟨by omega, by omega⟩).mono (Nat.le_succ _)
  · have sl := sub_len (x := S (recL key (tl L.now) L.caret.toNat)) (f := L.caret) (l := (wEnd (tl L.now) L.caret.toNat : Nat)) (by omega) (by omega) (by omega)
    exact h.change (by omega) (by omega) (by omega) (sub_ok rok) (by omega) (by omega) (by omega)
theorem two_ok {l : List Nat} {i j : Nat} (h : l.all okc = true) (hi : i < l.length) (hj : j < l.length) : okText (S [l.getD i 0, l.getD j 0]) = true := by
  refine okText_of ?_ (by rw [len_S]; show 2 ≤ 400; decide)
  rw [tl_S, List.getD_eq_getElem?_getD, List.getD_eq_getElem?_getD, List.getElem?_eq_getElem hi, List.getElem?_eq_getElem hj]
  have a := List.all_eq_true.mp h _ (List.getElem_mem hi)
  have b := List.all_eq_true.mp h _ (List.getElem_mem hj)
  simp [a, b]
theorem LOk.swap (h : LOk L n) : LOk L.swap (n + 1) := by
  have c := h.ok.caret
  have e := len_tl L.now
  have ok := h.ok.text
  have l4 := okText_len ok
  unfold LineS.place at c
  unfold LineS.swap
  split
  · rename_i q
    have q2 : L.swapAt ≤ (L.now.length : Int) - 1 := by unfold LineS.swapAt; omega
    have ls : (S [(tl L.now).getD L.swapAt.toNat 0, (tl L.now).getD (L.swapAt - 1).toNat 0]).length = 2 := rfl
    exact h.change (by omega) (by omega) (by omega) (two_ok (okText_all ok) (by omega) (by omega)) (by rw [ls]; omega) (by omega) (by rw [ls]; omega)
  · exact h.mono (Nat.le_succ _)
theorem empty_ok : okText "" = true := by decide +kernel
theorem LOk.take {key : Str} (h : LOk L n) : LOk (L.take key) (n + 1) := by
  have c := h.ok.caret
  have l4 := okText_len h.ok.text
  unfold LineS.place at c
  have le : (Str.ofString "").length = 0 := rfl
  unfold LineS.take
  split
  · split
    · exact h.change (by omega) (by omega) (by omega) empty_ok (by rw [le]; omega) (by omega) (by rw [le]; omega)
    · exact h.mono (Nat.le_succ _)
  · split
    · split
      · exact h.change (by omega) (by omega) (by omega) empty_ok (by rw [le]; omega) (by omega) (by rw [le]; omega)
      · exact h.mono (Nat.le_succ _)
    · exact h.mono (Nat.le_succ _)
theorem LOk.wipe (h : LOk L n) : LOk L.wipe (n + 1) := by
  have l4 := okText_len h.ok.text
  have le : (Str.ofString "").length = 0 := rfl
  unfold LineS.wipe
  split
  · exact h.mono (Nat.le_succ _)
  · exact h.change (by omega) (by omega) (by omega) empty_ok (by rw [le]; omega) (by omega) (by rw [le]; omega)
theorem LOk.cutOut {f l : Int} (h : LOk L n) (h0 : 0 ≤ f) (h1 : f ≤ l) (h2 : l ≤ L.now.length) : LOk (L.change f l "" f) (n + 1) := by
  have l4 := okText_len h.ok.text
  have le : (Str.ofString "").length = 0 := rfl
  exact h.change h0 h1 h2 empty_ok (by rw [le]; omega) h0 (by rw [le]; omega)
end
/-! rings -/
theorem push_ok {x : Str} {ts : List Str} (h : ∀ t ∈ ts, okText t = true) (l : ts.length ≤ 10) (hx : okText x = true) : ROk ⟨pushR 10 x ts, 0⟩ := by
  unfold pushR
  refine ⟨fun t ht => ?_, ?_, Int.le_refl _, ?_⟩
  · dsimp only at ht
    split at ht
    · exact h t ht
    · rcases List.mem_cons.mp (List.mem_of_mem_take ht) with rfl | z
      · exact hx
      · exact h t z
  · dsimp only
    split
    · exact l
    · rw [List.length_take]; exact Nat.min_le_left _ _
  · dsimp only
    split
    · cases ts with
      | nil => exact .inl rfl
      | cons t r => exact .inr (by simp)
    · exact .inr (by simp)
/-! histories -/
theorem add_ok {q : HistS} {x : Str} (h : QOk q) (hx : okText x = true) : QOk (q.add x) := by
  have k1 : ∀ t ∈ addH 50 x q.kept, okText t = true := fun t ht => by
    unfold addH at ht
    split at ht
    · exact h.k t ht
    · rcases List.mem_append.mp (List.mem_of_mem_drop ht) with z | z
      · exact h.k t z
      · rw [List.mem_singleton.mp z]; exact hx
  have k2 : (addH 50 x q.kept).length ≤ 50 := by
    have := h.l
    unfold addH
    split
    · exact this
    · rw [List.length_drop]
      show _ - (_ - 50) ≤ 50
      omega
  refine ⟨k1, k2, fun t ht => ?_, by simp [HistS.add], Nat.le_refl _⟩
  rcases List.mem_append.mp ht with z | z
  · exact k1 t z
  · rw [List.mem_singleton.mp z]; exact empty_ok
theorem keep_ok {q : HistS} {x : Str} (h : QOk q) (hx : okText x = true) : QOk (q.keep x) := by
  refine ⟨h.k, h.l, fun t ht => ?_, by simp [HistS.keep, h.m], h.p⟩
  rcases List.mem_or_eq_of_mem_set ht with z | z
  · exact h.s t z
  · rw [z]; exact hx
theorem spot_ok {q : HistS} {j : Nat} (h : QOk q) (hj : j ≤ q.kept.length) : QOk { q with spot := j } := ⟨h.k, h.l, h.s, h.m, hj⟩
theorem find_ok {ks : List Str} {part : Str} {g : Int} {j : Nat} (h : findH ks part g = some j) : ∃ x, ks[j]? = some x ∧ inS part x = true ∧ (j : Int) ≤ g := by
  unfold findH at h
  have hm := List.mem_of_getLast? h
  rw [List.mem_filter, List.mem_range] at hm
  obtain ⟨h1, h2⟩ := hm
  unfold hitH at h2
  rw [Bool.and_eq_true] at h2
  refine ⟨ks[j], List.getElem?_eq_getElem h1, ?_, of_decide_eq_true h2.1⟩
  rw [List.getD_eq_getElem?_getD, List.getElem?_eq_getElem h1] at h2
  exact h2.2
theorem find_place {x part : Str} (h : inS part x = true) : LineS.place x (Txt.find x part) := by
  unfold inS at h
  unfold Txt.find
  cases q : Builtin.Str.occurrences x part 0 x.length 1 with
  | nil => rw [q] at h; cases h
  | cons i r =>
    have := StrLaws.occ_spec x part 0 x.length 1 i (by rw [q]; simp)
    exact ⟨by show (0 : Int) ≤ (i : Int); omega, by show (i : Int) ≤ _; omega⟩

/-! ### what keys do leaves a hand that may be -/
theorem sign_len {key : Str} (h : isSign key = true) : ∃ c, key = S [c] ∧ okc c = true := by
  unfold isSign at h
  split at h
  · rename_i c hc
    exact ⟨c, str_ext (by rw [hc]; rfl), h⟩
  · cases h
theorem names_long : ∀ k ∈ MOVES ++ (CUTS ++ OTHERS), (tl k).length ≠ 1 := by decide +kernel
theorem sign_not {key : Str} (h : isSign key = true) : key ∉ MOVES ++ (CUTS ++ OTHERS) := fun z => by
  obtain ⟨c, rfl, _⟩ := sign_len h
  exact names_long _ z rfl
theorem sign_no {key : Str} (h : isSign key = true) {x : Str} (hx : x ∈ MOVES ++ (CUTS ++ OTHERS)) : ¬ key = x := fun e => sign_not h (e ▸ hx)
theorem sign_cuts {key : Str} (h : isSign key = true) : key ∉ CUTS ∧ key ∉ (["yank", "pop"] : List Str) ∧ ¬ key = "fill" := by
  refine ⟨fun z => sign_not h (List.mem_append_right _ (List.mem_append_left _ z)), fun z => ?_, sign_no h (by decide)⟩
  simp only [List.mem_cons, List.not_mem_nil, or_false] at z
  rcases z with z | z
  · exact sign_no h (by decide) z
  · exact sign_no h (by decide) z
theorem moves_cuts : ∀ key ∈ MOVES, key ∉ CUTS ∧ key ∉ (["yank", "pop"] : List Str) ∧ ¬ key = "fill" := by decide
theorem cuts_yank : ∀ key ∈ CUTS, key ∉ MOVES ∧ key ∉ (["yank", "pop"] : List Str) ∧ ¬ key = "fill" := by decide
theorem rub_cuts : ∀ key ∈ (["rub", "del"] : List Str), key ∉ CUTS ∧ key ∉ (["yank", "pop"] : List Str) ∧ ¬ key = "fill" := by decide
theorem yank_cuts : ∀ key ∈ (["yank", "pop"] : List Str), key ∉ CUTS ∧ ¬ key = "fill" := by decide
theorem case_cuts : ∀ key ∈ (["great", "small", "cap"] : List Str), key ∉ CUTS ∧ key ∉ (["yank", "pop"] : List Str) ∧ ¬ key = "fill" := by decide
theorem undo_cuts : ∀ key ∈ (["undo", "redo"] : List Str), key ∉ CUTS ∧ key ∉ (["yank", "pop"] : List Str) ∧ ¬ key = "fill" := by decide
theorem up_cuts : ∀ key ∈ (["up", "down"] : List Str), key ∉ CUTS ∧ key ∉ (["yank", "pop"] : List Str) ∧ ¬ key = "fill" := by decide
namespace HS
variable {Z : HS} {key : Str}
theorem Ok.lined (h : Z.Ok) (hs : Z.srch = none) {L : LineS} (hL : LOk L (Z.n + 1)) : ({ Z with line := L, cut := false, yank := none, choice := none, n := Z.n + 1 } : HS).Ok :=
  ⟨hL, h.ri, h.hi, h.wo, h.wl, h.w4, h.w400, h.f0, h.eo, Nat.le_succ_of_le h.el, (fun z => nomatch z), h.ti, (fun _ z => nomatch z), (fun _ z => nomatch z), (fun q z => by rw [show ({ Z with line := L, cut := false, yank := none, choice := none, n := Z.n + 1 } : HS).srch = none from hs] at z; cases z), h.ke, h.ma⟩
theorem again_eq (h1 : key ∉ CUTS) (h2 : key ∉ (["yank", "pop"] : List Str)) (h3 : ¬ key = "fill") : Z.again key = { Z.once key with cut := false, yank := none, choice := none, n := (Z.once key).n + 1 } := by
  unfold again
  simp only [if_neg h1, if_neg h2, if_neg h3]
theorem once_not (h : isSign key = false) : Z.once key = ({ Z with line := Z.line.rest } : HS).once1 key := by
  unfold once
  rw [if_neg (by rw [h]; exact Bool.false_ne_true)]
theorem meant_ok (h : ROk Z.ring) : okText (putYank.meantR0 Z.ring.ts Z.ring.spot) = true := by
  unfold putYank.meantR0
  rw [List.getD_eq_getElem?_getD]
  cases q : Z.ring.ts[Z.ring.spot.toNat]? with
  | none => exact empty_ok
  | some t => exact h.t t (List.mem_of_getElem? q)
theorem getD_ok {l : List Str} {j : Nat} (h : ∀ t ∈ l, okText t = true) : okText (l.getD j "") = true := by
  rw [List.getD_eq_getElem?_getD]
  cases q : l[j]? with
  | none => exact empty_ok
  | some t => exact h t (List.mem_of_getElem? q)
theorem Ok.cutting (h : Z.Ok) (hs : Z.srch = none) (hk : key ∈ CUTS) : ({ ({ Z with line := Z.line.rest } : HS).doCut key with yank := none, choice := none, n := Z.n + 1 } : HS).Ok := by
  have hl := h.li.rest
  obtain ⟨r0, r1, r2⟩ := cut_range (key := key) hl
  have now : Z.line.rest.now.length = Z.line.now.length := rfl
  unfold doCut
  dsimp only
  by_cases e : (cutRange Z.line.rest key).1 = (cutRange Z.line.rest key).2
  · rw [if_pos e]
    exact h.lined hs (hl.mono (Nat.le_succ _))
  · rw [if_neg e]
    generalize (cutRange Z.line.rest key).1 = f at *
    generalize (cutRange Z.line.rest key).2 = l at *
    have l4 := okText_len hl.ok.text
    have lt : f < l := by omega
    have so : okText (subS Z.line.rest.now f l) = true := sub_ok hl.ok.text
    have sl := sub_len (x := Z.line.rest.now) r0 r1 r2
    have nl : ((Z.line.rest.change f l "" f).now.length : Int) = Z.line.rest.now.length - (l - f) := by
      have := LineS.len_spliced (x := Z.line.rest.now) (new := "") r0 r1 r2
      have le : (Str.ofString "").length = 0 := rfl
      rw [le] at this
      show ((LineS.spliced Z.line.rest.now f l "").length : Int) = _
      omega
    have sne : ¬ subS Z.line.rest.now f l = "" := fun z => by rw [z] at sl; have le : (Str.ofString "").length = 0 := rfl; rw [le] at sl; omega
    have hring : ROk ⟨if Z.cut then joinR 10 (subS Z.line.rest.now f l) (decide (key ∈ (["rubword", "cutstart"] : List Str))) Z.ring.ts else pushR 10 (subS Z.line.rest.now f l) Z.ring.ts, 0⟩ ∧ ∃ x r, (if Z.cut then joinR 10 (subS Z.line.rest.now f l) (decide (key ∈ (["rubword", "cutstart"] : List Str))) Z.ring.ts else pushR 10 (subS Z.line.rest.now f l) Z.ring.ts) = x :: r ∧ x.length + (Z.line.rest.change f l "" f).now.length ≤ 400 := by
      cases hc : Z.cut with
      | false =>
        rw [if_neg (by exact Bool.false_ne_true)]
        refine ⟨push_ok h.ri.t h.ri.l so, subS Z.line.rest.now f l, Z.ring.ts.take 9, ?_, by omega⟩
        unfold pushR
        rw [if_neg sne]; rfl
      | true =>
        obtain ⟨hd, r, er, hsum⟩ := h.cu hc
        rw [if_pos rfl, er]
        have ho := h.ri.t hd (by rw [er]; simp)
        have hrl : (hd :: r).length ≤ 10 := er ▸ h.ri.l
        have jo : okText (if decide (key ∈ (["rubword", "cutstart"] : List Str)) = true then subS Z.line.rest.now f l ++ hd else hd ++ subS Z.line.rest.now f l) = true := by
          split
          · exact okText_app so ho (by omega)
          · exact okText_app ho so (by omega)
        have jl : (if decide (key ∈ (["rubword", "cutstart"] : List Str)) = true then subS Z.line.rest.now f l ++ hd else hd ++ subS Z.line.rest.now f l).length = hd.length + (subS Z.line.rest.now f l).length := by
          split
          · rw [len_app]; omega
          · rw [len_app]
        refine ⟨⟨fun t ht => ?_, hrl, Int.le_refl _, .inr (by show (0 : Int) < (_ :: _ : List Str).length; simp)⟩, _, r, rfl, by rw [jl]; omega⟩
        rcases List.mem_cons.mp ht with rfl | z
        · exact jo
        · exact h.ri.t t (by rw [er]; exact List.mem_cons_of_mem _ z)
    exact ⟨hl.cutOut r0 r1 r2, hring.1, h.hi, h.wo, h.wl, h.w4, h.w400, h.f0, h.eo, Nat.le_succ_of_le h.el, fun _ => hring.2, h.ti, (fun _ z => nomatch z), (fun _ z => nomatch z), (fun q z => by have z : Z.srch = some q := z; rw [hs] at z; cases z), h.ke, h.ma⟩
theorem Ok.yanked (h : Z.Ok) (hs : Z.srch = none) (f l : Int) (h0 : 0 ≤ f) (h1 : f ≤ l) (h2 : l ≤ Z.line.now.length) (hy : Z.yank = some (f, l)) : ({ Z.putYank f l with cut := false, choice := none, n := Z.n + 1 } : HS).Ok := by
  have to := meant_ok h.ri
  unfold putYank
  dsimp only
  generalize putYank.meantR0 Z.ring.ts Z.ring.spot = t at *
  by_cases c : (Z.line.now.length : Int) - (l - f) + t.length ≤ 400 ∧ (t ≠ "" ∨ f < l)
  · rw [if_pos c]
    have nl : ((Z.line.change f l t (f + t.length)).now.length : Int) = Z.line.now.length - (l - f) + t.length := LineS.len_spliced h0 h1 h2
    refine ⟨h.li.change h0 h1 h2 to c.1 (by omega) (by omega), h.ri, h.hi, h.wo, h.wl, h.w4, h.w400, h.f0, h.eo, Nat.le_succ_of_le h.el, (fun z => nomatch z), h.ti, (fun y z => ?_), (fun _ z => nomatch z), (fun q z => by have z : Z.srch = some q := z; rw [hs] at z; cases z), h.ke, h.ma⟩
    have z : some (f, f + (t.length : Int)) = some y := z
    cases z
    exact ⟨h0, by show f ≤ f + _; omega, by show f + _ ≤ ((Z.line.change f l t (f + t.length)).now.length : Int); omega⟩
  · rw [if_neg c]
    refine ⟨h.li.mono (Nat.le_succ _), h.ri, h.hi, h.wo, h.wl, h.w4, h.w400, h.f0, h.eo, Nat.le_succ_of_le h.el, (fun z => nomatch z), h.ti, h.ya, (fun _ z => nomatch z), (fun q z => by have z : Z.srch = some q := z; rw [hs] at z; cases z), h.ke, h.ma⟩
theorem Ok.rested (h : Z.Ok) : ({ Z with line := Z.line.rest } : HS).Ok := ⟨h.li.rest, h.ri, h.hi, h.wo, h.wl, h.w4, h.w400, h.f0, h.eo, h.el, h.cu, h.ti, h.ya, h.ch, h.sr, h.ke, h.ma⟩
theorem Ok.turned (h : Z.Ok) : Z.turned.Ok := by
  have r : ROk ⟨Z.ring.ts, if Z.ring.ts = [] then Z.ring.spot else (Z.ring.spot + 1) % (Z.ring.ts.length : Int)⟩ := by
    refine ⟨h.ri.t, h.ri.l, ?_, ?_⟩
    · dsimp only; split
      · exact h.ri.s0
      · rename_i q
        have : 0 < Z.ring.ts.length := List.length_pos_iff.mpr q
        exact Int.emod_nonneg _ (by omega)
    · dsimp only; split
      · rename_i q; exact .inl q
      · rename_i q
        have : 0 < Z.ring.ts.length := List.length_pos_iff.mpr q
        exact .inr (Int.emod_lt_of_pos _ (by omega))
  exact ⟨h.li, r, h.hi, h.wo, h.wl, h.w4, h.w400, h.f0, h.eo, h.el, h.cu, h.ti, h.ya, h.ch, h.sr, h.ke, h.ma⟩
theorem Ok.yanking (h : Z.Ok) (hs : Z.srch = none) : ({ Z.doYank key with cut := false, choice := none, n := Z.n + 1 } : HS).Ok := by
  have c := h.li.ok.caret
  unfold LineS.place at c
  unfold doYank
  split
  · have h2 : ({ Z with ring := ⟨Z.ring.ts, 0⟩, yank := some (Z.line.caret, Z.line.caret) } : HS).Ok := by
      refine ⟨h.li, ⟨h.ri.t, h.ri.l, Int.le_refl _, ?_⟩, h.hi, h.wo, h.wl, h.w4, h.w400, h.f0, h.eo, h.el, h.cu, h.ti, fun y z => ?_, h.ch, (fun q z => by have z : Z.srch = some q := z; rw [hs] at z; cases z), h.ke, h.ma⟩
      · cases q : Z.ring.ts with
        | nil => exact .inl rfl
        | cons t r => exact .inr (by show (0 : Int) < (_ :: _ : List Str).length; simp)
      · have z : some (Z.line.caret, Z.line.caret) = some y := z
        cases z
        exact ⟨c.1, Int.le_refl _, c.2⟩
    exact Ok.yanked h2 hs _ _ c.1 (Int.le_refl _) c.2 rfl
  · cases hy : Z.yank with
    | none =>
      refine ⟨h.li.mono (Nat.le_succ _), h.ri, h.hi, h.wo, h.wl, h.w4, h.w400, h.f0, h.eo, Nat.le_succ_of_le h.el, (fun z => nomatch z), h.ti, h.ya, (fun _ z => nomatch z), (fun q z => by have z : Z.srch = some q := z; rw [hs] at z; cases z), h.ke, h.ma⟩
    | some y =>
      obtain ⟨y0, y1, y2⟩ := h.ya y hy
      exact Ok.yanked h.turned hs _ _ y0 y1 y2 hy
theorem Ok.filledL (h : Z.Ok) {f l : Int} {new : Str} (h0 : 0 ≤ f) (h1 : f ≤ l) (h2 : l ≤ Z.line.now.length) (ho : (tl new).all okc = true) : LOk (Z.filled f l new).line (Z.n + 1) := by
  unfold filled
  split
  · rename_i q
    have q' := of_decide_eq_true q
    exact h.li.change h0 h1 h2 (okText_of ho (by omega)) q' (by omega) (by omega)
  · exact h.li.mono (Nat.le_succ _)
theorem filled_eq {f l : Int} {new : Str} : Z.filled f l new = { Z with line := (Z.filled f l new).line } := by
  unfold filled
  split <;> rfl
theorem Ok.choosing (h : Z.Ok) (hs : Z.srch = none) : ({ Z.fill with cut := false, yank := none, n := Z.n + 1 } : HS).Ok := by
  have c := h.li.ok.caret
  have e := len_tl Z.line.now
  have l4 := okText_len h.li.ok.text
  unfold LineS.place at c
  unfold fill
  cases hc : Z.choice with
  | some ch =>
    have C := h.ch ch hc
    dsimp only
    unfold nextChoice
    dsimp only
    have yo : okText (ch.some_.getD ((ch.k + 1) % ch.some_.length) "") = true := getD_ok C.t
    have ce := C.e
    have cs := C.s
    have hj : (ch.k + 1) % ch.some_.length < ch.some_.length := Nat.mod_lt _ (by have := C.k; omega)
    have hL := h.filledL (f := ch.start) (l := ch.start + ((ch.some_.getD ch.k "").length : Int)) (new := ch.some_.getD ((ch.k + 1) % ch.some_.length) "") cs (by omega) ce (okText_all yo)
    split
    · rename_i q
      have q' := of_decide_eq_true q
      have nl : (((Z.filled ch.start (ch.start + ((ch.some_.getD ch.k "").length : Int)) (ch.some_.getD ((ch.k + 1) % ch.some_.length) "")).line).now.length : Int) = Z.line.now.length - ((ch.start + ((ch.some_.getD ch.k "").length : Int)) - ch.start) + (ch.some_.getD ((ch.k + 1) % ch.some_.length) "").length := by
        unfold filled
        rw [if_pos q]
        exact LineS.len_spliced cs (by omega) ce
      rw [filled_eq]
      refine ⟨hL, h.ri, h.hi, h.wo, h.wl, h.w4, h.w400, h.f0, h.eo, Nat.le_succ_of_le h.el, (fun z => nomatch z), h.ti, (fun _ z => nomatch z), (fun c2 z => ?_), (fun q z => by have z : Z.srch = some q := z; rw [hs] at z; cases z), h.ke, h.ma⟩
      have z : some { ch with k := (ch.k + 1) % ch.some_.length } = some c2 := z
      cases z
      exact ⟨hj, C.few, C.t, cs, by show ch.start + ((ch.some_.getD ((ch.k + 1) % ch.some_.length) "").length : Int) ≤ (((Z.filled ch.start (ch.start + ((ch.some_.getD ch.k "").length : Int)) (ch.some_.getD ((ch.k + 1) % ch.some_.length) "")).line).now.length : Int); omega⟩
    · exact ⟨h.li.mono (Nat.le_succ _), h.ri, h.hi, h.wo, h.wl, h.w4, h.w400, h.f0, h.eo, Nat.le_succ_of_le h.el, (fun z => nomatch z), h.ti, (fun _ z => nomatch z), h.ch, (fun q z => by have z : Z.srch = some q := z; rw [hs] at z; cases z), h.ke, h.ma⟩
  | none =>
    dsimp only
    have fs := fStart_le (l := tl Z.line.now) (a := Z.line.caret.toNat)
    have po : okText (fPart Z.line.now Z.line.caret.toNat) = true := by
      have e2 : fPart Z.line.now Z.line.caret.toNat = subS Z.line.now (fStart (tl Z.line.now) Z.line.caret.toNat : Nat) (Z.line.caret.toNat : Nat) := by
        unfold fPart subS
        congr 1
      rw [e2]; exact sub_ok h.li.ok.text
    have fo : ∀ t ∈ fFit Z.ws (fPart Z.line.now Z.line.caret.toNat), okText t = true := fun t ht => h.wo t (List.mem_filter.mp ht).1
    have fl : (fFit Z.ws (fPart Z.line.now Z.line.caret.toNat)).length ≤ 200 := Nat.le_trans (List.length_filter_le _ _) h.wl
    have pl : ((fPart Z.line.now Z.line.caret.toNat).length : Int) = Z.line.caret - (fStart (tl Z.line.now) Z.line.caret.toNat : Nat) := by
      unfold fPart
      rw [len_S, List.length_take, List.length_drop]; omega
    have co : (tl (fCommon (fFit Z.ws (fPart Z.line.now Z.line.caret.toNat)) (fPart Z.line.now Z.line.caret.toNat))).all okc = true := by
      unfold fCommon
      split
      · exact okText_all po
      · rename_i s0 r heq
        rw [tl_S]
        have := okText_all (fo s0 (by rw [heq]; simp))
        exact List.all_eq_true.mpr fun c hc => List.all_eq_true.mp this c (List.mem_of_mem_take hc)
    have w0 : (tl ((fFit Z.ws (fPart Z.line.now Z.line.caret.toNat)).getD 0 "" ++ " ")).all okc = true := by
      rw [tl_app, List.all_append, okText_all (getD_ok fo)]; rfl
    generalize fPart Z.line.now Z.line.caret.toNat = part at *
    generalize fFit Z.ws part = F at *
    generalize fCommon F part = cm at *
    have base : ∀ new, (tl new).all okc = true → ({ Z.filled (fStart (tl Z.line.now) Z.line.caret.toNat : Nat) Z.line.caret new with cut := false, yank := none, n := Z.n + 1 } : HS).Ok := fun new ho => by
      have hL := h.filledL (f := (fStart (tl Z.line.now) Z.line.caret.toNat : Nat)) (l := Z.line.caret) (new := new) (by omega) (by omega) c.2 ho
      rw [filled_eq]
      have q := h.lined hs hL
      exact ⟨q.li, q.ri, q.hi, q.wo, q.wl, q.w4, q.w400, q.f0, q.eo, q.el, q.cu, q.ti, q.ya, (fun c2 z => by have z : Z.choice = some c2 := z; rw [hc] at z; cases z), (fun q z => by have z : Z.srch = some q := z; rw [hs] at z; cases z), q.ke, q.ma⟩
    split
    · exact base _ w0
    · split
      · exact base _ co
      · split
        · refine ⟨h.li.mono (Nat.le_succ _), h.ri, h.hi, h.wo, h.wl, h.w4, h.w400, h.f0, h.eo, Nat.le_succ_of_le h.el, (fun z => nomatch z), h.ti, (fun _ z => nomatch z), (fun c2 z => ?_), (fun q z => by have z : Z.srch = some q := z; rw [hs] at z; cases z), h.ke, h.ma⟩
          have z : some (⟨(fStart (tl Z.line.now) Z.line.caret.toNat : Nat), part :: F, 0⟩ : ChoiceS) = some c2 := z
          cases z
          refine ⟨by show 0 < (part :: F).length; simp, by show (part :: F).length ≤ 1000; simp; omega, fun t ht => ?_, by show (0 : Int) ≤ ((fStart (tl Z.line.now) Z.line.caret.toNat : Nat) : Int); omega, ?_⟩
          · rcases List.mem_cons.mp ht with rfl | z
            · exact po
            · exact fo t z
          · show ((fStart (tl Z.line.now) Z.line.caret.toNat : Nat) : Int) + (part.length : Int) ≤ (Z.line.now.length : Int)
            omega
        · have q := h.lined hs (h.li.mono (Nat.le_succ _))
          exact ⟨q.li, q.ri, q.hi, q.wo, q.wl, q.w4, q.w400, q.f0, q.eo, q.el, q.cu, q.ti, q.ya, (fun c2 z => by have z : Z.choice = some c2 := z; rw [hc] at z; cases z), (fun q z => by have z : Z.srch = some q := z; rw [hs] at z; cases z), q.ke, q.ma⟩
theorem putYank_n {f l : Int} : (Z.putYank f l).n = Z.n := by
  unfold putYank
  dsimp only
  split <;> rfl
theorem doYank_n : (Z.doYank key).n = Z.n := by
  unfold doYank
  split
  · exact putYank_n
  · split
    · rfl
    · exact putYank_n
theorem Ok.recalling (h : Z.Ok) (hs : Z.srch = none) (sp : Int) : ({ ({ Z with line := Z.line.rest } : HS).recall sp with cut := false, yank := none, choice := none, n := (({ Z with line := Z.line.rest } : HS).recall sp).n + 1 } : HS).Ok := by
  unfold recall
  by_cases c : 0 ≤ sp ∧ sp ≤ (({ Z with line := Z.line.rest } : HS).hist.kept.length : Int)
  · rw [if_pos c]
    have hk := keep_ok h.hi h.li.ok.text
    have hl := h.lined hs (LOk.fresh (getD_ok (j := sp.toNat) hk.s))
    have c2 : sp ≤ (Z.hist.kept.length : Int) := c.2
    exact ⟨hl.li, hl.ri, spot_ok hk (by show _ ≤ Z.hist.kept.length; omega), hl.wo, hl.wl, hl.w4, hl.w400, hl.f0, hl.eo, hl.el, hl.cu, hl.ti, hl.ya, hl.ch, (fun q z => by have z : Z.srch = some q := z; rw [hs] at z; cases z), hl.ke, hl.ma⟩
  · rw [if_neg c]
    exact h.lined hs (h.li.rest.mono (Nat.le_succ _))
theorem Ok.again (h : Z.Ok) (hs : Z.srch = none) (key : Str) : (Z.again key).Ok := by
  cases sg : isSign key with
  | true =>
    obtain ⟨c1, c2, c3⟩ := sign_cuts sg
    rw [again_eq c1 c2 c3]
    unfold once
    rw [if_pos sg]
    split
    · rename_i q; exact h.lined hs (h.li.write sg q)
    · exact h.lined hs (h.li.mono (Nat.le_succ _))
  | false =>
    have hR := h.rested
    have eo := once_not (Z := Z) sg
    by_cases m1 : key ∈ MOVES
    · obtain ⟨c1, c2, c3⟩ := moves_cuts key m1
      rw [again_eq c1 c2 c3, eo, once1, if_pos m1]
      exact h.lined hs ((h.li.rest.go (place_goal h.li.rest)).mono (Nat.le_succ _))
    by_cases m2 : key ∈ CUTS
    · obtain ⟨_, c2, c3⟩ := cuts_yank key m2
      have e : Z.again key = { ({ Z with line := Z.line.rest } : HS).doCut key with yank := none, choice := none, n := Z.n + 1 } := by
        unfold HS.again
        rw [eo, once1, if_neg m1, if_pos m2]
        simp only [if_pos m2, if_neg c2, if_neg c3]
        unfold doCut
        dsimp only
        split <;> rfl
      rw [e]; exact h.cutting hs m2
    by_cases m3 : key ∈ (["rub", "del"] : List Str)
    · obtain ⟨c1, c2, c3⟩ := rub_cuts key m3
      rw [again_eq c1 c2 c3, eo, once1, if_neg m1, if_neg m2, if_pos m3]
      exact h.lined hs h.li.rest.take
    by_cases m4 : key ∈ (["yank", "pop"] : List Str)
    · obtain ⟨c1, c3⟩ := yank_cuts key m4
      have e : Z.again key = { ({ Z with line := Z.line.rest } : HS).doYank key with cut := false, choice := none, n := Z.n + 1 } := by
        unfold HS.again
        rw [eo, once1, if_neg m1, if_neg m2, if_neg m3, if_pos m4]
        simp only [if_pos m4, if_neg c1, if_neg c3]
        rw [doYank_n]
      rw [e]; exact hR.yanking hs
    by_cases m5 : key ∈ (["great", "small", "cap"] : List Str)
    · obtain ⟨c1, c2, c3⟩ := case_cuts key m5
      rw [again_eq c1 c2 c3, eo, once1, if_neg m1, if_neg m2, if_neg m3, if_neg m4, if_pos m5]
      exact h.lined hs h.li.rest.recase
    by_cases m6 : key ∈ (["undo", "redo"] : List Str)
    · obtain ⟨c1, c2, c3⟩ := undo_cuts key m6
      rw [again_eq c1 c2 c3, eo, once1, if_neg m1, if_neg m2, if_neg m3, if_neg m4, if_neg m5, if_pos m6]
      exact h.lined hs h.li.rest.undoK
    by_cases m7 : key ∈ (["up", "down"] : List Str)
    · obtain ⟨c1, c2, c3⟩ := up_cuts key m7
      rw [again_eq c1 c2 c3, eo, once1, if_neg m1, if_neg m2, if_neg m3, if_neg m4, if_neg m5, if_neg m6, if_pos m7]
      exact h.recalling hs _
    have e1 : ∀ Y : HS, Y.once1 key = Y.other key := fun Y => by rw [once1, if_neg m1, if_neg m2, if_neg m3, if_neg m4, if_neg m5, if_neg m6, if_neg m7]
    by_cases f1 : key = "fill"
    · have e : Z.again key = { ({ Z with line := Z.line.rest } : HS).fill with cut := false, yank := none, n := Z.n + 1 } := by
        unfold HS.again
        rw [eo, e1]
        simp only [if_neg m2, if_neg m4, if_pos f1]
        subst f1
        have ef : ∀ Y : HS, Y.other "fill" = Y.fill := fun Y => rfl
        rw [ef]
        have en : ∀ Y : HS, Y.fill.n = Y.n := fun Y => by
          unfold HS.fill
          split
          · unfold nextChoice; dsimp only; split
            · rw [filled_eq]
            · rfl
          · dsimp only; split
            · rw [filled_eq]
            · split
              · rw [filled_eq]
              · split <;> rfl
        rw [en]
      rw [e]; exact hR.choosing hs
    rw [again_eq m2 m4 f1, eo, e1]
    have rl := h.li.rest
    unfold HS.other
    by_cases o1 : key = "swap"
    · rw [if_pos o1]; exact h.lined hs rl.swap
    rw [if_neg o1]
    by_cases o2 : key = "mark"
    · rw [if_pos o2]; exact h.lined hs ((rl.putMark rl.ok.caret).mono (Nat.le_succ _))
    rw [if_neg o2]
    by_cases o3 : key = "swapmark"
    · rw [if_pos o3]; exact h.lined hs (rl.swapmark.mono (Nat.le_succ _))
    rw [if_neg o3]
    by_cases o4 : key = "copymark"
    · rw [if_pos o4]
      have hl := h.lined hs (rl.mono (Nat.le_succ _))
      exact ⟨hl.li, push_ok h.ri.t h.ri.l (sub_ok rl.ok.text), hl.hi, hl.wo, hl.wl, hl.w4, hl.w400, hl.f0, hl.eo, hl.el, (fun z => nomatch z), hl.ti, hl.ya, hl.ch, (fun q z => by have z : Z.srch = some q := z; rw [hs] at z; cases z), hl.ke, hl.ma⟩
    rw [if_neg o4]
    by_cases o5 : key = "search"
    · rw [if_pos o5]
      have hl := h.lined hs (rl.mono (Nat.le_succ _))
      refine ⟨hl.li, hl.ri, keep_ok h.hi rl.ok.text, hl.wo, hl.wl, hl.w4, hl.w400, hl.f0, hl.eo, hl.el, hl.cu, hl.ti, hl.ya, hl.ch, (fun q z => ?_), hl.ke, hl.ma⟩
      have z : some (⟨Z.line.rest.pic, Z.hist.spot, "", [⟨none, false, ""⟩]⟩ : SrchS) = some q := z
      cases z
      refine ⟨⟨rl.ok.pic, h.hi.p, by simp, by show 1 ≤ _; omega, Nat.zero_le _, show plainS "" = true by decide +kernel, fun e he => ?_⟩, rfl, rfl⟩
      rw [List.mem_singleton.mp he]
      exact ⟨show plainS "" = true by decide +kernel, fun j z => nomatch z⟩
    rw [if_neg o5, if_neg f1]
    by_cases o6 : key = "enter"
    · rw [if_pos o6]
      have hl := h.lined hs (LOk.fresh (n := Z.n + 1) empty_ok)
      refine ⟨hl.li, hl.ri, add_ok h.hi rl.ok.text, hl.wo, hl.wl, hl.w4, hl.w400, hl.f0, (fun t ht => ?_), ?_, hl.cu, hl.ti, hl.ya, hl.ch, (fun q z => by have z : Z.srch = some q := z; rw [hs] at z; cases z), hl.ke, hl.ma⟩
      · rcases List.mem_append.mp ht with z | z
        · exact h.eo t z
        · rw [List.mem_singleton.mp z]; exact rl.ok.text
      · show (Z.ent ++ [Z.line.rest.now]).length ≤ Z.n + 1
        have := h.el
        simp; omega
    rw [if_neg o6]
    exact h.lined hs rl.wipe
/-! searches -/
theorem last_mem {q : SrchS} (h : q.trail ≠ []) : q.last ∈ q.trail := by
  unfold SrchS.last
  rw [List.getLast?_eq_some_getLast h]
  exact List.getLast_mem h
theorem SOk.mono {q : SrchS} {ks : List Str} {n m : Nat} (h : SOk q ks n) (k : n ≤ m) : SOk q ks m := ⟨h.was, h.spot, h.ne, Nat.le_trans h.tl (Nat.succ_le_succ k), Nat.le_trans h.pl k, h.pp, h.es⟩
theorem here_le {q : SrchS} {ks : List Str} {n : Nat} (h : SOk q ks n) : q.here ≤ ks.length := by
  unfold SrchS.here
  cases e : q.last.at_ with
  | none => exact h.spot
  | some j =>
    obtain ⟨x, hx, _⟩ := (h.es _ (last_mem h.ne)).2 j e
    have := (List.getElem?_eq_some_iff.mp hx).1
    exact Nat.le_of_lt this
theorem note_ok {q : SrchS} {ks : List Str} {n : Nat} {g : Int} {new : Bool} (h : SOk q ks (n + 1)) (ht : q.trail.length ≤ n + 1) : SOk (q.note (findH ks q.part g) new) ks (n + 1) := by
  have hl := h.es _ (last_mem h.ne)
  refine ⟨h.was, h.spot, by simp [SrchS.note], ?_, h.pl, h.pp, fun e he => ?_⟩
  · show ((if new then q.trail else q.trail.dropLast) ++ [_]).length ≤ _
    rw [List.length_append]
    cases new with
    | true => simp; omega
    | false => simp; omega
  · rcases List.mem_append.mp he with z | z
    · refine h.es e ?_
      split at z
      · exact z
      · exact List.dropLast_subset _ z
    · rw [List.mem_singleton.mp z]
      unfold SrchS.entry
      cases f : findH ks q.part g with
      | none => exact hl
      | some j =>
        refine ⟨h.pp, fun i hi => ?_⟩
        cases hi
        obtain ⟨x, h1, h2, _⟩ := find_ok f
        exact ⟨x, h1, h2⟩
theorem Ok.shown {q : SrchS} (h : Z.Ok) (hq : SOk q Z.hist.kept (Z.n + 1)) (hy : Z.yank = none) (hc : Z.choice = none) (b : Bool) : (Z.seek q b).Ok := by
  unfold seek
  dsimp only
  have base : ∀ (L : LineS) (j : Nat), LOk L (Z.n + 1) → j ≤ Z.hist.kept.length → ({ Z with srch := some q, line := L, hist := { Z.hist with spot := j }, cut := false, n := Z.n + 1 } : HS).Ok := fun L j hL hj =>
    ⟨hL, h.ri, spot_ok h.hi hj, h.wo, h.wl, h.w4, h.w400, h.f0, h.eo, Nat.le_succ_of_le h.el, (fun z => nomatch z), h.ti, (fun y z => by have z : Z.yank = some y := z; rw [hy] at z; cases z), (fun c z => by have z : Z.choice = some c := z; rw [hc] at z; cases z), (fun q2 z => by have z : some q = some q2 := z; cases z; exact ⟨hq, hy, hc⟩), h.ke, h.ma⟩
  have hw := hq.was
  split
  · unfold showFound
    split
    · exact base _ _ ⟨LineS.Ok.show_ (LineS.ok_fresh hw.1 (okText_len hw.1)) hw, Nat.zero_le _, Nat.zero_le _⟩ hq.spot
    · rename_i j hj
      obtain ⟨x, hx, hi⟩ := (hq.es _ (last_mem hq.ne)).2 j hj
      have lt := (List.getElem?_eq_some_iff.mp hx).1
      have ex : Z.hist.kept.getD j "" = x := by rw [List.getD_eq_getElem?_getD, hx]; rfl
      have xo := h.hi.k x (List.mem_of_getElem? hx)
      have hL : LOk ((LineS.fresh (Z.hist.kept.getD j "")).go (Txt.find (Z.hist.kept.getD j "") q.last.part)) (Z.n + 1) := by
        rw [ex]
        exact (LOk.fresh xo).go (find_place hi)
      exact base _ _ hL (Nat.le_of_lt lt)
  · exact base Z.line Z.hist.spot (h.li.mono (Nat.le_succ _)) h.hi.p
theorem Ok.searched {q : SrchS} (h : Z.Ok) (hq : Z.srch = some q) (key : Str) : (Z.searched q key).2.Ok ∧ ((Z.searched q key).1 = false → (Z.searched q key).2.srch = none) := by
  obtain ⟨S0, hy, hc⟩ := h.sr q hq
  unfold HS.searched
  split
  · rename_i sg
    obtain ⟨c, rfl, oc⟩ := sign_len sg
    refine ⟨h.shown ?_ hy hc _, fun z => nomatch z⟩
    have S1 : SOk { q with part := q.part ++ S [c] } Z.hist.kept (Z.n + 1) := by
      refine ⟨S0.was, S0.spot, S0.ne, Nat.le_succ_of_le S0.tl, ?_, ?_, S0.es⟩
      · have := S0.pl
        show (q.part ++ S [c]).length ≤ _
        rw [len_app]; show _ + 1 ≤ _; omega
      · show plainS (q.part ++ S [c]) = true
        have := S0.pp
        unfold plainS at *
        rw [tl_app, List.all_append, this]
        show (true && (decide (c < 128) && true)) = true
        rw [decide_eq_true (okc_lt oc)]; rfl
    exact note_ok (g := (q.here : Int)) (new := true) S1 S0.tl
  · split
    · exact ⟨h.shown (note_ok (SOk.mono S0 (Nat.le_succ _)) S0.tl) hy hc _, fun z => nomatch z⟩
    · split
      · refine ⟨h.shown ?_ hy hc _, fun z => nomatch z⟩
        have el : ∀ e ∈ (if 1 < q.trail.length then q.trail.dropLast else q.trail), e ∈ q.trail := fun e he => by
          split at he
          · exact List.dropLast_subset _ he
          · exact he
        refine ⟨S0.was, S0.spot, ?_, ?_, ?_, ?_, fun e he => S0.es e (el e he)⟩
        · show (if 1 < q.trail.length then q.trail.dropLast else q.trail) ≠ []
          split
          · intro z
            have := congrArg List.length z
            rw [List.length_dropLast, List.length_nil] at this
            omega
          · exact S0.ne
        · have := S0.tl
          show (if 1 < q.trail.length then q.trail.dropLast else q.trail).length ≤ _
          split
          · rw [List.length_dropLast]; omega
          · omega
        · have := S0.pl
          have e := len_tl q.part
          show (S (tl q.part).dropLast).length ≤ _
          rw [len_S, List.length_dropLast]; omega
        · have := S0.pp
          show plainS (S (tl q.part).dropLast) = true
          unfold plainS at *
          rw [tl_S]
          exact List.all_eq_true.mpr fun c hc => List.all_eq_true.mp this c (List.dropLast_subset _ hc)
      · split
        · refine ⟨?_, fun z => nomatch z⟩
          have hw := S0.was
          exact ⟨⟨LineS.Ok.show_ (LineS.ok_fresh hw.1 (okText_len hw.1)) hw, Nat.zero_le _, Nat.zero_le _⟩, h.ri, spot_ok h.hi S0.spot, h.wo, h.wl, h.w4, h.w400, h.f0, h.eo, Nat.le_succ_of_le h.el, (fun z => nomatch z), h.ti, (fun y z => by have z : Z.yank = some y := z; rw [hy] at z; cases z), (fun c z => by have z : Z.choice = some c := z; rw [hc] at z; cases z), (fun q2 z => nomatch z), h.ke, h.ma⟩
        · exact ⟨⟨h.li.mono (Nat.le_succ _), h.ri, h.hi, h.wo, h.wl, h.w4, h.w400, h.f0, h.eo, Nat.le_succ_of_le h.el, h.cu, h.ti, h.ya, h.ch, (fun q2 z => nomatch z), h.ke, h.ma⟩, fun _ => rfl⟩
theorem Ok.turn (h : Z.Ok) (key : Str) : (Z.turn key).Ok := by
  unfold HS.turn
  cases hs : Z.srch with
  | none => exact h.again hs key
  | some q =>
    obtain ⟨a, b⟩ := h.searched hs key
    dsimp only
    cases e : (Z.searched q key).1 with
    | true => exact a
    | false => exact a.again (b e) key
theorem Ok.turns (key : Str) : ∀ (k : Nat) {Z : HS}, Z.Ok → (HS.turns key k Z).Ok
  | 0, _, h => h
  | k + 1, _, h => Ok.turns key k (h.turn key)
theorem Ok.untimed (h : Z.Ok) : ({ Z with times := none } : HS).Ok := ⟨h.li, h.ri, h.hi, h.wo, h.wl, h.w4, h.w400, h.f0, h.eo, h.el, h.cu, (fun _ z => nomatch z), h.ya, h.ch, h.sr, h.ke, h.ma⟩
theorem fig_of {key : Str} (h : isFig key = true) : 0 ≤ figOf key ∧ figOf key ≤ 9 := by
  unfold isFig at h
  unfold figOf
  split at h
  · rename_i c d hc
    rw [hc]
    simp only [Bool.and_eq_true, decide_eq_true_eq] at h
    show 0 ≤ (d : Int) - 48 ∧ (d : Int) - 48 ≤ 9
    omega
  · cases h
theorem Ok.timed (h : Z.Ok) (hf : isFig key = true) : ({ Z with times := some (min 99 (10 * Z.times.getD 0 + figOf key)) } : HS).Ok := by
  have f := fig_of hf
  have t0 : 0 ≤ Z.times.getD 0 := by
    cases q : Z.times with
    | none => exact Int.le_refl _
    | some k => exact (h.ti k q).1
  exact ⟨h.li, h.ri, h.hi, h.wo, h.wl, h.w4, h.w400, h.f0, h.eo, h.el, h.cu, (fun k z => by have z : some (min 99 (10 * Z.times.getD 0 + figOf key)) = some k := z; cases z; omega), h.ya, h.ch, h.sr, h.ke, h.ma⟩
theorem Ok.pressed1 (h : Z.Ok) (key : Str) : (Z.pressed1 key).Ok := by
  unfold HS.pressed1
  split
  · rename_i hf; exact h.timed hf
  · exact Ok.turns key _ h.untimed
theorem Ok.pressed (h : Z.Ok) (key : Str) : (Z.pressed key).Ok := by
  unfold HS.pressed
  cases hs : Z.srch with
  | none => exact h.pressed1 key
  | some q =>
    obtain ⟨a, b⟩ := h.searched hs key
    dsimp only
    cases e : (Z.searched q key).1 with
    | true => exact a
    | false => exact a.pressed1 key
theorem Ok.presses (keys : List Str) : ∀ {Z : HS}, Z.Ok → (Z.presses keys).Ok := by
  induction keys with
  | nil => exact fun h => h
  | cons k r ih => exact fun h => ih (h.pressed k)
theorem Ok.rounds (keys : List Str) : ∀ (k : Nat) {Z : HS}, Z.Ok → (HS.rounds keys k Z).Ok
  | 0, _, h => h
  | k + 1, _, h => Ok.rounds keys k (h.presses keys)
theorem Ok.press (h : Z.Ok) (hk : isKey key = true) : (Z.press key).Ok := by
  unfold HS.press
  split
  · exact ⟨h.li, h.ri, h.hi, h.wo, h.wl, h.w4, h.w400, h.f0, h.eo, h.el, h.cu, h.ti, h.ya, h.ch, h.sr, (fun l z => by have z : some [] = some l := z; cases z; exact ⟨Nat.zero_le _, fun _ h => nomatch h⟩), h.ma⟩
  · rename_i n1
    split
    · unfold HS.stop
      cases hl : Z.kept with
      | none => exact h
      | some l => exact ⟨h.li, h.ri, h.hi, h.wo, h.wl, h.w4, h.w400, h.f0, h.eo, h.el, h.cu, h.ti, h.ya, h.ch, h.sr, (fun _ z => nomatch z), h.ke l hl⟩
    · rename_i n2
      split
      · unfold HS.play
        split
        · exact Ok.rounds _ _ h.untimed
        · exact h.untimed
      · rename_i n3
        refine Ok.pressed ?_ key
        refine ⟨h.li, h.ri, h.hi, h.wo, h.wl, h.w4, h.w400, h.f0, h.eo, h.el, h.cu, h.ti, h.ya, h.ch, h.sr, (fun l z => ?_), h.ma⟩
        obtain ⟨l0, h0, rfl⟩ := Option.map_eq_some_iff.mp (show (Z.kept.map fun l => (l ++ [key]).take 100) = some l from z)
        obtain ⟨_, k2⟩ := h.ke l0 h0
        refine ⟨by rw [List.length_take]; exact Nat.min_le_left _ _, fun k hk' => ?_⟩
        rcases List.mem_append.mp (List.mem_of_mem_take hk') with z | z
        · exact k2 k z
        · rw [List.mem_singleton.mp z]
          exact ⟨hk, by simp only [RSP, List.mem_cons, List.not_mem_nil, or_false]; rintro (q | q | q); exact n1 q; exact n2 q; exact n3 q⟩
/-! the count grows -/
theorem fill_n : Z.fill.n = Z.n := by
  unfold HS.fill
  split
  · unfold nextChoice; dsimp only; split
    · rw [filled_eq]
    · rfl
  · dsimp only; split
    · rw [filled_eq]
    · split
      · rw [filled_eq]
      · split <;> rfl
theorem other_n : (Z.other key).n = Z.n := by
  unfold HS.other
  repeat' split
  all_goals first
    | rfl
    | exact fill_n
theorem recall_n {sp : Int} : (Z.recall sp).n = Z.n := by
  unfold HS.recall
  split <;> rfl
theorem once1_n : (Z.once1 key).n = Z.n := by
  unfold HS.once1
  split
  · rfl
  · split
    · unfold HS.doCut; dsimp only; split <;> rfl
    · split
      · rfl
      · split
        · exact doYank_n
        · split
          · rfl
          · split
            · rfl
            · split
              · exact recall_n
              · exact other_n
theorem once_n : (Z.once key).n = Z.n := by
  unfold HS.once
  split
  · split <;> rfl
  · exact once1_n
theorem again_n : (Z.again key).n = Z.n + 1 := by
  show (Z.once key).n + 1 = _
  rw [once_n]
theorem seek_n {q : SrchS} {b : Bool} : (Z.seek q b).n = Z.n + 1 := rfl
theorem searched_n {q : SrchS} : (Z.searched q key).2.n = Z.n + 1 := by
  unfold HS.searched
  repeat' split
  all_goals rfl
theorem turn_n : Z.n ≤ (Z.turn key).n := by
  unfold HS.turn
  split
  · rw [again_n]; omega
  · dsimp only
    split
    · rw [searched_n]; omega
    · rw [again_n, searched_n]; omega
theorem turn_n2 : (Z.turn key).n ≤ Z.n + 2 := by
  unfold HS.turn
  split
  · rw [again_n]; omega
  · dsimp only
    split
    · rw [searched_n]; omega
    · rw [again_n, searched_n]; omega
theorem turns_n : ∀ (k : Nat) {Z : HS}, Z.n ≤ (HS.turns key k Z).n
  | 0, _ => Nat.le_refl _
  | k + 1, Z => Nat.le_trans (turn_n (Z := Z) (key := key)) (turns_n k)
theorem turns_n2 : ∀ (k : Nat) {Z : HS}, (HS.turns key k Z).n ≤ Z.n + 2 * k
  | 0, _ => Nat.le_refl _
  | k + 1, Z => by
    have a := turn_n2 (Z := Z) (key := key)
    have b := turns_n2 k (Z := Z.turn key)
    show (HS.turns key k (Z.turn key)).n ≤ _
    omega
theorem pressed1_n : Z.n ≤ (Z.pressed1 key).n := by
  unfold HS.pressed1
  split
  · exact Nat.le_refl _
  · exact turns_n (key := key) _ (Z := { Z with times := none })
theorem pressed_n : Z.n ≤ (Z.pressed key).n := by
  unfold HS.pressed
  cases hs : Z.srch with
  | none => exact pressed1_n
  | some q =>
    dsimp only
    split
    · rw [searched_n]; omega
    · have := pressed1_n (Z := (Z.searched q key).2) (key := key)
      rw [searched_n] at this
      omega
theorem presses_n : ∀ (keys : List Str) {Z : HS}, Z.n ≤ (Z.presses keys).n
  | [], _ => Nat.le_refl _
  | k :: r, Z => Nat.le_trans (pressed_n (Z := Z) (key := k)) (presses_n r)
theorem rounds_n {keys : List Str} : ∀ (k : Nat) {Z : HS}, Z.n ≤ (HS.rounds keys k Z).n
  | 0, _ => Nat.le_refl _
  | k + 1, Z => Nat.le_trans (presses_n keys (Z := Z)) (rounds_n k)
end HS

/-! ### walks of hands -/
section
variable {K : PySem.W.Frag} {H : Hp} {Q : VK} {p : Addr} {x : Str}
theorem all_strs (ys : List Str) : (ys.map V.str).all flatV = true := by rw [List.all_map]; exact List.all_eq_true.mpr fun _ _ => rfl
theorem z_inT (ys : List Str) (h : SqT K H p (ys.map V.str)) (q : Q (.bl (decide (x ∈ ys))) H) : rIn K false (.str x) (.ref p) H Q := z_in (.inr h) rfl (all_strs ys) (by rw [if_neg Bool.false_ne_true, inV_str]; exact q)
theorem z_ninT (ys : List Str) (h : SqT K H p (ys.map V.str)) (q : Q (.bl (!decide (x ∈ ys))) H) : rIn K true (.str x) (.ref p) H Q := z_in (.inr h) rfl (all_strs ys) (by rw [if_pos rfl, inV_str]; exact q)
end
theorem HandAt.mvp {K : PySem.W.Frag} {H : Hp} {p : Addr} {A : HA} {Z : HS} (h : HandAt K H p A Z) (o : HO) : Mq H (upd H p o) p A A := ⟨⟨Fr.upd Fr.refl h.p_mem, nw_refl⟩, rfl⟩
theorem HandAt.mvq {K : PySem.W.Frag} {H : Hp} {p : Addr} {A A' : HA} {Z : HS} (h : HandAt K H p A Z) (o : HO) (e : A'.X p = A.X p) (em : A'.ml = A.ml) : Mq H (upd H p o) p A A' := ⟨⟨Fr.upd Fr.refl h.p_mem, by rw [e]; exact nw_refl⟩, em⟩
theorem key_len {key : Str} (h : isKey key = true) : key.length ≤ 400 := by
  have nm : ∀ k ∈ MOVES ++ (CUTS ++ OTHERS), k.length ≤ 400 := by decide +kernel
  unfold isKey at h
  simp only [Bool.or_eq_true, decide_eq_true_eq] at h
  rcases h with h | h | h | h | h
  · exact nm key (List.mem_append_left _ h)
  · exact nm key (List.mem_append_right _ (List.mem_append_left _ h))
  · exact nm key (List.mem_append_right _ (List.mem_append_right _ h))
  · obtain ⟨c, rfl, _⟩ := sign_len h
    show 1 ≤ 400; decide
  · rw [len_tl]
    unfold isFig at h
    split at h
    · rename_i c d hc; rw [hc]; show 2 ≤ 400; decide
    · cases h
theorem HandAt.setN {K : PySem.W.Frag} {H : Hp} {p : Addr} {A : HA} {Z : HS} (h : HandAt K H p A Z) (m : Nat) : HandAt K H p A { Z with n := m } := ⟨h.ob, h.li, h.ri, h.hi, h.fi, h.wi, h.en, h.ma, h.sr, h.ya, h.ch, h.ke, h.pw⟩
theorem Mq.keep {H H' : Hp} {p : Addr} {A A' : HA} {b : Addr} {o : HO} (m : Mq H H' p A A') (n : b ∉ A.X p) (e : H b = some o) : H' b = some o ∧ b ∉ A'.X p := ⟨m.mv.fr b o e n, fun z => (m.mv.nw b z).elim n fun q => by rw [q] at e; cases e⟩
/-- the hand lets go of what it looked for -/
theorem HandAt.unsearch {K : PySem.W.Frag} {H : Hp} {p : Addr} {A : HA} {Z : HS} (h : HandAt K H p A Z) : Mq H (upd H p (.ins (He.ga K "Hand") A.dx (putF "search" .non (handF A Z.cut Z.times)))) p A { A with sv := .non, sfp := [] } ∧ ∀ y ∈ A.sfp, y ∉ HA.X { A with sv := .non, sfp := [] } p := by
  refine ⟨⟨⟨Fr.upd Fr.refl h.p_mem, fun y hy => .inl ?_⟩, rfl⟩, fun y hy hz => ?_⟩
  · rcases fl_set (i := 8) (Bs := A.bs p) (F' := []) hy with z | z
    · exact z
    · cases z
  · obtain ⟨G, hG, hg⟩ := List.mem_flatten.mp hz
    obtain ⟨j, hj⟩ := List.mem_iff_getElem?.mp hG
    by_cases e : j = 8
    · subst e
      have : (HA.bs { A with sv := .non, sfp := [] } p)[8]? = some [] := rfl
      rw [this] at hj
      cases hj
      cases hg
    · have q : (A.bs p)[j]? = some G := by
        have e2 : HA.bs { A with sv := .non, sfp := [] } p = (A.bs p).set 8 [] := rfl
        rw [e2, List.getElem?_set_ne (Ne.symm e)] at hj
        exact hj
      exact h.apart (i := 8) (j := j) (Ne.symm e) rfl q y hy hg
theorem ROk.zero {r : RingS} (h : ROk r) : ROk ⟨r.ts, 0⟩ := by
  refine ⟨h.t, h.l, Int.le_refl _, ?_⟩
  cases q : r.ts with
  | nil => exact .inl rfl
  | cons t l => exact .inr (by show (0 : Int) < ((t :: l).length : Nat); simp)
theorem fig_iff {key : Str} : isFig key = (decide ((key.length : Int) = 2) && ((decide ((tl key).getD 0 0 = 35)) && (!(Builtin.Str.occurrences "0123456789" (S [(tl key).getD 1 0]) 0 (Str.length "0123456789") 1).isEmpty))) := by
  have e := len_tl key
  have dg : ∀ d : Nat, (!(Builtin.Str.occurrences "0123456789" (S [d]) 0 (Str.length "0123456789") 1).isEmpty) = (decide (48 ≤ d) && decide (d ≤ 57)) := fun d => by
    have := StrLaws.found_one "0123456789" d
    rw [show (S [d]) = (⟨#[d]⟩ : Str) from rfl, this, show (Str.ofString "0123456789").cps.toList = [48, 49, 50, 51, 52, 53, 54, 55, 56, 57] from rfl]
    by_cases h : 48 ≤ d ∧ d ≤ 57
    · rw [decide_eq_true h.1, decide_eq_true h.2]
      obtain ⟨h1, h2⟩ := h
      apply decide_eq_true
      simp only [List.mem_cons, List.not_mem_nil, or_false]
      omega
    · have : (decide (48 ≤ d) && decide (d ≤ 57)) = false := by
        rw [Bool.and_eq_false_iff]
        by_cases h1 : 48 ≤ d
        · exact .inr (decide_eq_false (by omega))
        · exact .inl (decide_eq_false h1)
      rw [this]
      apply decide_eq_false
      simp only [List.mem_cons, List.not_mem_nil, or_false]
      omega
  unfold isFig
  split
  · rename_i c d hc
    rw [hc] at e ⊢
    rw [dg]
    rw [decide_eq_true (show (key.length : Int) = 2 by rw [e]; rfl)]
    rfl
  · rename_i hn
    by_cases h2 : (key.length : Int) = 2
    · exfalso
      have l2 : (tl key).length = 2 := by omega
      match q : tl key, l2 with
      | [c, d], _ => exact hn c d q
    · rw [decide_eq_false h2]; rfl
namespace HS
theorem turns_succ {key : Str} : ∀ (k : Nat) {Z : HS}, (turns key k Z).turn key = turns key (k + 1) Z
  | 0, _ => rfl
  | k + 1, Z => turns_succ k (Z := Z.turn key)
theorem turns_mono {key : Str} {Z : HS} {i : Nat} : ∀ (j : Nat), (turns key i Z).n ≤ (turns key (i + j) Z).n
  | 0 => Nat.le_refl _
  | j + 1 => by
    have := turns_mono (key := key) (Z := Z) (i := i) j
    have h2 := turn_n (Z := turns key (i + j) Z) (key := key)
    rw [turns_succ] at h2
    exact Nat.le_trans this h2
theorem turns_le {key : Str} {Z : HS} {i k : Nat} (h : i ≤ k) : (turns key i Z).n ≤ (turns key k Z).n := by
  have := turns_mono (key := key) (Z := Z) (i := i) (k - i)
  rw [show i + (k - i) = k by omega] at this
  exact this
theorem rounds_succ {keys : List Str} : ∀ (k : Nat) {Z : HS}, (rounds keys k Z).presses keys = rounds keys (k + 1) Z
  | 0, _ => rfl
  | k + 1, Z => rounds_succ k (Z := Z.presses keys)
theorem rounds_mono {keys : List Str} {Z : HS} {i : Nat} : ∀ (j : Nat), (rounds keys i Z).n ≤ (rounds keys (i + j) Z).n
  | 0 => Nat.le_refl _
  | j + 1 => by
    have := rounds_mono (keys := keys) (Z := Z) (i := i) j
    have h2 := presses_n keys (Z := rounds keys (i + j) Z)
    rw [rounds_succ] at h2
    exact Nat.le_trans this h2
theorem rounds_le {keys : List Str} {Z : HS} {i k : Nat} (h : i ≤ k) : (rounds keys i Z).n ≤ (rounds keys k Z).n := by
  have := rounds_mono (keys := keys) (Z := Z) (i := i) (k - i)
  rw [show i + (k - i) = k by omega] at this
  exact this
theorem presses_snoc {keys : List Str} {k : Str} {Z : HS} : (Z.presses keys).pressed k = Z.presses (keys ++ [k]) := by unfold presses; rw [List.foldl_append]; rfl
theorem presses_take {keys : List Str} {i : Nat} {Z : HS} : (Z.presses (keys.take i)).n ≤ (Z.presses keys).n := by
  have h := presses_n (keys.drop i) (Z := Z.presses (keys.take i))
  have e : (Z.presses (keys.take i)).presses (keys.drop i) = Z.presses keys := by unfold presses; rw [← List.foldl_append, List.take_append_drop]
  rw [e] at h
  exact h
/-! what is kept stays -/
theorem putYank_mac {Z : HS} {f l : Int} : (Z.putYank f l).mac = Z.mac ∧ (Z.putYank f l).kept = Z.kept := by
  unfold putYank; dsimp only; split <;> exact ⟨rfl, rfl⟩
theorem doYank_mac {Z : HS} {key : Str} : (Z.doYank key).mac = Z.mac ∧ (Z.doYank key).kept = Z.kept := by
  unfold doYank
  split
  · exact putYank_mac
  · split
    · exact ⟨rfl, rfl⟩
    · exact putYank_mac
theorem fill_mac {Z : HS} : Z.fill.mac = Z.mac ∧ Z.fill.kept = Z.kept := by
  unfold HS.fill
  split
  · unfold nextChoice; dsimp only; split
    · rw [filled_eq]; exact ⟨rfl, rfl⟩
    · exact ⟨rfl, rfl⟩
  · dsimp only; split
    · rw [filled_eq]; exact ⟨rfl, rfl⟩
    · split
      · rw [filled_eq]; exact ⟨rfl, rfl⟩
      · split <;> exact ⟨rfl, rfl⟩
theorem other_mac {Z : HS} {key : Str} : (Z.other key).mac = Z.mac ∧ (Z.other key).kept = Z.kept := by
  unfold HS.other
  repeat' split
  all_goals first
    | exact ⟨rfl, rfl⟩
    | exact fill_mac
theorem recall_mac {Z : HS} {sp : Int} : (Z.recall sp).mac = Z.mac ∧ (Z.recall sp).kept = Z.kept := by
  unfold HS.recall; split <;> exact ⟨rfl, rfl⟩
theorem once1_mac {Z : HS} {key : Str} : (Z.once1 key).mac = Z.mac ∧ (Z.once1 key).kept = Z.kept := by
  unfold HS.once1
  split
  · exact ⟨rfl, rfl⟩
  · split
    · unfold HS.doCut; dsimp only; split <;> exact ⟨rfl, rfl⟩
    · split
      · exact ⟨rfl, rfl⟩
      · split
        · exact doYank_mac
        · split
          · exact ⟨rfl, rfl⟩
          · split
            · exact ⟨rfl, rfl⟩
            · split
              · exact recall_mac
              · exact other_mac
theorem once_mac {Z : HS} {key : Str} : (Z.once key).mac = Z.mac ∧ (Z.once key).kept = Z.kept := by
  unfold HS.once
  split
  · split <;> exact ⟨rfl, rfl⟩
  · exact once1_mac
theorem again_mac {Z : HS} {key : Str} : (Z.again key).mac = Z.mac ∧ (Z.again key).kept = Z.kept := once_mac
theorem seek_mac {Z : HS} {q : SrchS} {b : Bool} : (Z.seek q b).mac = Z.mac ∧ (Z.seek q b).kept = Z.kept := by
  unfold HS.seek
  dsimp only
  split
  · unfold HS.showFound; split <;> exact ⟨rfl, rfl⟩
  · exact ⟨rfl, rfl⟩
theorem searched_mac {Z : HS} {q : SrchS} {key : Str} : (Z.searched q key).2.mac = Z.mac ∧ (Z.searched q key).2.kept = Z.kept := by
  unfold HS.searched
  repeat' split
  all_goals first
    | exact seek_mac
    | exact ⟨rfl, rfl⟩
theorem turn_mac {Z : HS} {key : Str} : (Z.turn key).mac = Z.mac ∧ (Z.turn key).kept = Z.kept := by
  unfold HS.turn
  split
  · exact again_mac
  · dsimp only
    split
    · exact searched_mac
    · exact ⟨again_mac.1.trans searched_mac.1, again_mac.2.trans searched_mac.2⟩
theorem turns_mac {key : Str} : ∀ (k : Nat) {Z : HS}, (HS.turns key k Z).mac = Z.mac ∧ (HS.turns key k Z).kept = Z.kept
  | 0, _ => ⟨rfl, rfl⟩
  | k + 1, Z => ⟨(turns_mac k (Z := Z.turn key)).1.trans turn_mac.1, (turns_mac k (Z := Z.turn key)).2.trans turn_mac.2⟩
theorem pressed1_mac {Z : HS} {key : Str} : (Z.pressed1 key).mac = Z.mac ∧ (Z.pressed1 key).kept = Z.kept := by
  unfold HS.pressed1
  split
  · exact ⟨rfl, rfl⟩
  · exact turns_mac _ (Z := { Z with times := none })
theorem pressed_mac {Z : HS} {key : Str} : (Z.pressed key).mac = Z.mac ∧ (Z.pressed key).kept = Z.kept := by
  unfold HS.pressed
  split
  · exact pressed1_mac
  · dsimp only
    split
    · exact searched_mac
    · exact ⟨pressed1_mac.1.trans searched_mac.1, pressed1_mac.2.trans searched_mac.2⟩
theorem presses_mac : ∀ (keys : List Str) {Z : HS}, (Z.presses keys).mac = Z.mac ∧ (Z.presses keys).kept = Z.kept
  | [], _ => ⟨rfl, rfl⟩
  | k :: r, Z => ⟨(presses_mac r (Z := Z.pressed k)).1.trans pressed_mac.1, (presses_mac r (Z := Z.pressed k)).2.trans pressed_mac.2⟩
end HS
theorem int_digit {d : Nat} (h1 : 48 ≤ d) (h2 : d ≤ 57) : PySem.intText? (⟨#[d]⟩ : Str) = some ((d : Int) - 48) := by
  have h : ∀ i : Fin 10, PySem.intText? (⟨#[48 + i.1]⟩ : Str) = some (((48 + i.1 : Nat) : Int) - 48) := by decide +kernel
  have := h ⟨d - 48, by omega⟩
  rw [show 48 + (d - 48) = d by omega] at this
  exact this

/-! ### a new hand -/
def HS.new (ws : List Str) (w : Int) : HS := ⟨LineS.fresh "", ⟨[], 0⟩, ⟨[], [""], 0⟩, ws, w, 0, [], false, none, none, none, none, none, [], 0⟩
/-- an object in the making: its parts so far, all of them new -/
structure NewB (H0 H : Hp) (p C dx : Addr) (fs : List (Str × V)) (Bs : List (List Addr)) : Prop where
  ob : H p = some (.ins C dx fs)
  fr : Fr [p] H0 H
  pw : Bs.Pairwise Ap
  np : ∀ F ∈ Bs, Ap F [p]
  nw : ∀ F ∈ Bs, ∀ y ∈ F, H0 y = none
  al : ∀ F ∈ Bs, Alive H F
section
variable {H0 H H2 : Hp} {p C dx : Addr} {fs : List (Str × V)} {Bs : List (List Addr)}
theorem NewB.init (h : H p = some (.ins C dx fs)) : NewB H H p C dx fs [] := ⟨h, Fr.refl, .nil, (fun _ h => nomatch h), (fun _ h => nomatch h), (fun _ h => nomatch h)⟩
theorem NewB.wr (N : NewB H0 H p C dx fs Bs) : Wrs H [p] := .cons (.ins N.ob) wrs_nil
theorem NewB.step {F : List Addr} (N : NewB H0 H p C dx fs Bs) (s : Same H H2) (hf : ∀ y ∈ F, H y = none) (al : Alive H2 F) (fs' : List (Str × V)) : NewB H0 (upd H2 p (.ins C dx fs')) p C dx fs' (Bs ++ [F]) := by
  have f : Fr [p] H (upd H2 p (.ins C dx fs')) := Fr.upd (Fr.same s) (by simp)
  have ny : ∀ y ∈ F, y ≠ p := fun y hy z => by have := hf y hy; rw [z, N.ob] at this; cases this
  have npF : Ap F [p] := fun y hy z => ny y hy (List.mem_singleton.mp z)
  refine ⟨upd_same, N.fr.trans f, ?_, fun G hG => ?_, fun G hG => ?_, fun G hG => ?_⟩
  · rw [List.pairwise_append]
    refine ⟨N.pw, List.pairwise_singleton _ _, fun G hG G' hG' => ?_⟩
    rw [List.mem_singleton.mp hG']
    exact fun y hy hz => N.al G hG y hy (hf y hz)
  · rcases List.mem_append.mp hG with z | z
    · exact N.np G z
    · rw [List.mem_singleton.mp z]; exact npF
  · rcases List.mem_append.mp hG with z | z
    · exact N.nw G z
    · rw [List.mem_singleton.mp z]; exact fun y hy => N.fr.free (hf y hy) (by simpa using ny y hy)
  · rcases List.mem_append.mp hG with z | z
    · exact (N.al G z).fr f (N.np G z)
    · rw [List.mem_singleton.mp z]
      intro y hy
      rw [upd_ne (ny y hy)]; exact al y hy
end

/-! ### keys that change the line alone -/
theorem sl_tupK {X : Cx} {K : PySem.W.Frag} (h : X.K = K) : SlR X (rSlT K) := h ▸ sl_tup
/-- the first two of a picture -/
theorem z_now2 {K : PySem.W.Frag} {H : Hp} {Q : VK} {r : Addr} {P : Pic} (h : PicAt H r P) (q : ∀ p, H p = none → Q (.ref p) (upd H p (.tup [.str P.txt, .int P.at_]))) : rSlT K (.ref r) none (some 2) H Q := ⟨r, _, rfl, SqT.of h, (by intro z; exact absurd z.2 (by show ¬ (2 : Nat) = 3; decide)), q⟩
theorem Fr.freeA {H H' : Hp} {S : List Addr} {y : Addr} (f : Fr S H H') (al : Alive H' S) (e : H' y = none) : H y = none := f.free e fun z => al y z e
def EDITS : List Str := MOVES ++ (["undo", "redo", "great", "small", "cap", "rub", "del", "swap", "cancel", "mark", "swapmark"] : List Str)
def editK (key : Str) : Bool := isSign key || decide (key ∈ EDITS)
def editL (L : LineS) (key : Str) : LineS :=
  if isSign key then (if L.now.length < 400 then L.write key else L)
  else if key ∈ MOVES then L.rest.go (goalL L.rest key)
  else if key ∈ (["undo", "redo"] : List Str) then L.rest.undoK key
  else if key ∈ (["great", "small", "cap"] : List Str) then L.rest.recase key
  else if key ∈ (["rub", "del"] : List Str) then L.rest.take key
  else if key = "swap" then L.rest.swap
  else if key = "mark" then L.rest.putMark L.caret
  else if key = "swapmark" then L.rest.swapmark
  else L.rest.wipe
theorem edits_not : ∀ key ∈ EDITS, key ∉ CUTS ∧ key ∉ (["yank", "pop"] : List Str) ∧ key ∉ (["up", "down"] : List Str) ∧ ¬ key = "fill" ∧ ¬ key = "copymark" ∧ ¬ key = "search" ∧ ¬ key = "enter" ∧ key ∉ RSP := by decide +kernel
theorem edits_lists : ∀ key ∈ EDITS, (key ∈ MOVES → key ∉ (["rub", "del"] : List Str) ∧ key ∉ (["great", "small", "cap"] : List Str) ∧ key ∉ (["undo", "redo"] : List Str)) ∧ (key ∈ (["rub", "del"] : List Str) → key ∉ (["great", "small", "cap"] : List Str) ∧ key ∉ (["undo", "redo"] : List Str)) ∧ (key ∈ (["great", "small", "cap"] : List Str) → key ∉ (["undo", "redo"] : List Str)) := by decide +kernel
theorem once_edit {Z : HS} {key : Str} (h : editK key = true) : Z.once key = { Z with line := editL Z.line key } := by
  unfold HS.once editL
  by_cases sg : isSign key = true
  · rw [if_pos sg, if_pos sg]
    split <;> rfl
  rw [if_neg sg, if_neg sg]
  have hm : key ∈ EDITS := by
    unfold editK at h
    rw [Bool.or_eq_true] at h
    exact h.elim (fun z => absurd z sg) of_decide_eq_true
  obtain ⟨e1, e2, e3, e4, e5, e6, e7, e8⟩ := edits_not key hm
  obtain ⟨l1, l2, l3⟩ := edits_lists key hm
  unfold HS.once1
  by_cases m1 : key ∈ MOVES
  · rw [if_pos m1, if_pos m1]
  rw [if_neg m1, if_neg m1, if_neg e1]
  by_cases m2 : key ∈ (["rub", "del"] : List Str)
  · obtain ⟨n1, n2⟩ := l2 m2
    rw [if_pos m2, if_neg n2, if_neg n1, if_pos m2]
  rw [if_neg m2, if_neg e2]
  by_cases m3 : key ∈ (["great", "small", "cap"] : List Str)
  · have n1 := l3 m3
    rw [if_pos m3, if_neg n1, if_pos m3]
  rw [if_neg m3]
  by_cases m4 : key ∈ (["undo", "redo"] : List Str)
  · rw [if_pos m4, if_pos m4]
  rw [if_neg m4, if_neg e3, if_neg m4, if_neg m3, if_neg m2]
  unfold HS.other
  by_cases o1 : key = "swap"
  · rw [if_pos o1, if_pos o1]
  rw [if_neg o1, if_neg o1]
  by_cases o2 : key = "mark"
  · rw [if_pos o2, if_pos o2]; rfl
  rw [if_neg o2, if_neg o2]
  by_cases o3 : key = "swapmark"
  · rw [if_pos o3, if_pos o3]
  rw [if_neg o3, if_neg o3, if_neg e5, if_neg e6, if_neg e4, if_neg e7]
/-! ### a hand at rest: nothing is looked for, no figures, no keys kept -/
structure HS.Calm (Z : HS) : Prop where
  t : Z.times = none
  s : Z.srch = none
  k : Z.kept = none
theorem fig_sign {key : Str} (h : isFig key = true) : isSign key = false := by
  unfold isFig at h
  unfold isSign
  split at h
  · rename_i c d hc; rw [hc]
  · cases h
theorem fig_names {key : Str} (h : isFig key = true) : key ∉ MOVES ++ (CUTS ++ OTHERS) := fun z => by
  have : ∀ k ∈ MOVES ++ (CUTS ++ OTHERS), isFig k = false := by decide +kernel
  rw [this key z] at h; cases h
theorem press_rsp {Z : HS} {key : Str} (hr : key ∉ RSP) (hk : Z.kept = none) : Z.press key = Z.pressed key := by
  unfold RSP at hr
  simp only [List.mem_cons, List.not_mem_nil, or_false, not_or] at hr
  unfold HS.press
  rw [if_neg hr.1, if_neg hr.2.1, if_neg hr.2.2]
  have e : ({ Z with kept := Z.kept.map fun l => (l ++ [key]).take 100 } : HS) = Z := by rw [hk]; show ({ Z with kept := none } : HS) = Z; rw [← hk]
  rw [e]
theorem press_calm {Z : HS} {key : Str} (h : Z.Calm) (hf : isFig key = false) (hr : key ∉ RSP) : Z.press key = Z.again key := by
  rw [press_rsp hr h.k]
  have ht := h.t
  have hs := h.s
  unfold HS.pressed
  rw [hs]
  show Z.pressed1 key = _
  unfold HS.pressed1
  rw [if_neg (by rw [hf]; exact Bool.false_ne_true), ht]
  show HS.turns key 0 (({ Z with times := none } : HS).turn key) = _
  have e : ({ Z with times := none } : HS) = Z := by rw [← ht]
  rw [e]
  show Z.turn key = _
  unfold HS.turn
  rw [hs]
theorem edit_key {key : Str} (h : editK key = true) : isKey key = true ∧ isFig key = false ∧ key ∉ RSP ∧ key ∉ CUTS ∧ key ∉ (["yank", "pop"] : List Str) ∧ ¬ key = "fill" := by
  unfold editK at h
  rw [Bool.or_eq_true] at h
  rcases h with h | h
  · have n := sign_not h
    refine ⟨?_, ?_, fun z => n ?_, (sign_cuts h).1, (sign_cuts h).2.1, (sign_cuts h).2.2⟩
    · unfold isKey; rw [h]; simp
    · cases q : isFig key with
      | false => rfl
      | true => rw [fig_sign q] at h; cases h
    · have : ∀ k ∈ RSP, k ∈ MOVES ++ (CUTS ++ OTHERS) := by decide +kernel
      exact this key z
  · have h := of_decide_eq_true h
    obtain ⟨e1, e2, e3, e4, e5, e6, e7, e8⟩ := edits_not key h
    have : ∀ k ∈ EDITS, isKey k = true ∧ isFig k = false := by decide +kernel
    exact ⟨(this key h).1, (this key h).2, e8, e1, e2, e4⟩
/-- a hand at rest, behind a key that changes the line alone -/
def HS.edited (Z : HS) (key : Str) : HS := { Z with line := editL Z.line key, cut := false, yank := none, choice := none, n := Z.n + 1 }
theorem press_edit {Z : HS} {key : Str} (h : Z.Calm) (hk : editK key = true) : Z.press key = Z.edited key ∧ (Z.edited key).Calm := by
  obtain ⟨h1, h2, h3, h4, h5, h6⟩ := edit_key hk
  refine ⟨?_, h.t, h.s, h.k⟩
  rw [press_calm h h2 h3, HS.again_eq h4 h5 h6, once_edit hk]; rfl
/-! ### a line begun empty -/
structure Root (L : LineS) : Prop where
  hd : ((L.before ++ [L.pic]).head?).map (·.txt) = some ""
  run : L.run ≠ 0 → L.before ≠ []
theorem root_fresh : Root (LineS.fresh "") := ⟨rfl, fun h => absurd rfl h⟩
theorem head_snoc {α : Type} {l : List α} {x y : α} (h : l ≠ []) : (l ++ [x]).head? = (l ++ [y]).head? := by
  cases l with
  | nil => exact absurd rfl h
  | cons a r => rfl
theorem Root.pic {L M : LineS} (h : Root L) (hb : M.before = L.before) (ht : M.now = L.now) (hr : M.run = 0) : Root M := by
  refine ⟨?_, fun z => absurd hr z⟩
  have := h.hd
  rw [hb]
  cases q : L.before with
  | nil => rw [q] at this; show some M.now = _; rw [ht]; exact this
  | cons a r => rw [q] at this; exact this
theorem Root.push {L M : LineS} (h : Root L) (hb : M.before = L.before ++ [L.pic]) : Root M := by
  have ne : L.before ++ [L.pic] ≠ [] := by simp
  refine ⟨?_, fun _ => by rw [hb]; exact ne⟩
  rw [hb, head_snoc (y := M.pic) ne]
  have := h.hd
  cases q : L.before with
  | nil => rw [q] at this; exact this
  | cons a r => rw [q] at this; exact this
theorem Root.write {L : LineS} {x : Str} (h : Root L) : Root (L.write x) := by
  unfold LineS.write
  split
  · exact h.push rfl
  · rename_i q
    have ne : L.before ≠ [] := h.run fun z => q (.inl z)
    refine ⟨?_, fun _ => ne⟩
    rw [← h.hd]
    show Option.map _ ((L.before ++ [_]).head?) = _
    rw [head_snoc (y := L.pic) ne]
theorem Root.change {L : LineS} {x : Str} {f l c : Int} (h : Root L) : Root (L.change f l x c) := h.push rfl
theorem Root.undo {L : LineS} (h : Root L) : Root L.undo.2 := by
  unfold LineS.undo
  cases q : L.before.getLast? with
  | none => exact h.pic rfl rfl rfl
  | some P =>
    obtain ⟨ps, e⟩ := List.getLast?_eq_some_iff.mp q
    refine ⟨?_, fun z => absurd rfl z⟩
    have := h.hd
    rw [e] at this
    show Option.map _ ((L.before.dropLast ++ [(⟨P.txt, P.at_, P.mrk⟩ : Pic)]).head?) = _
    rw [e, List.dropLast_concat]
    rw [head_snoc (y := P) (by simp)] at this
    cases ps with
    | nil => exact this
    | cons a r => exact this
theorem Root.redo {L : LineS} (h : Root L) : Root L.redo.2 := by
  unfold LineS.redo
  cases q : L.later.getLast? with
  | none => exact h.pic rfl rfl rfl
  | some P => exact h.push rfl
theorem Root.rest {L : LineS} (h : Root L) : Root L.rest := h.pic rfl rfl rfl
theorem Root.edit {L : LineS} {key : Str} (h : Root L) : Root (editL L key) := by
  have hr := h.rest
  unfold editL
  split
  · split
    · exact h.write
    · exact h
  split
  · exact hr.pic rfl rfl rfl
  split
  · unfold LineS.undoK
    split
    · exact hr.undo
    · exact hr.redo
  split
  · unfold LineS.recase
    split
    · exact hr.pic rfl rfl rfl
    · exact hr.change
  split
  · unfold LineS.take
    split
    · split
      · exact hr.change
      · exact hr
    · split
      · split
        · exact hr.change
        · exact hr
      · exact hr
  split
  · unfold LineS.swap
    split
    · exact hr.change
    · exact hr
  split
  · exact hr.pic rfl rfl rfl
  split
  · exact hr.pic rfl rfl rfl
  · unfold LineS.wipe
    split
    · exact hr
    · exact hr.change
theorem Root.done {L : LineS} (h : Root L) (hb : L.before = []) (hc : LineS.place L.now L.caret) : L.now = "" ∧ L.caret = 0 := by
  have := h.hd
  rw [hb] at this
  have e : L.now = "" := Option.some.inj this
  refine ⟨e, ?_⟩
  unfold LineS.place at hc
  rw [e] at hc
  have : (Str.ofString "").length = 0 := rfl
  rw [this] at hc
  omega
/-! ### a hand and a law's own, apart -/
structure WH (K : PySem.W.Frag) (H : Hp) (a t : Addr) (ns : List Int) (n : Nat) (p : Addr) (A : HA) (Z : HS) (Y : List Addr) : Prop where
  wd : Wd K H a t ns n (A.X p) Y
  hd : HandAt K H p A Z
  ok : Z.Ok
section
variable {K : PySem.W.Frag} {H H' : Hp} {a t p : Addr} {ns : List Int} {n n' : Nat} {A A' : HA} {Z Z' : HS} {Y Y' : List Addr}
theorem WH.same (W : WH K H a t ns n p A Z Y) (s : Same H H') : WH K H' a t ns n p A Z Y := ⟨W.wd.same s, W.hd.same s, W.ok⟩
theorem WH.draw (W : WH K H a t ns n p A Z Y) (B : Bs K H' a t ns n') (f : Fr [t] H H') : WH K H' a t ns n' p A Z Y := ⟨W.wd.draw B, W.hd.ap f W.wd.bs.wrs (ap1 W.wd.tx), W.ok⟩
theorem WH.mono (W : WH K H a t ns n p A Z Y) (h : n ≤ n') : WH K H a t ns n' p A Z Y := ⟨W.wd.mono h, W.hd, W.ok⟩
theorem WH.hand (W : WH K H a t ns n p A Z Y) (m : Mv H H' (A.X p) (A'.X p)) (h : HandAt K H' p A' Z') (ok : Z'.Ok) (l : Alive H Y) : WH K H' a t ns n p A' Z' Y := ⟨W.wd.x m.fr W.hd.wrX m.nw l, h, ok⟩
theorem WH.law (W : WH K H a t ns n p A Z Y) (f : Fr Y H H') (w : Wrs H Y) (g : Nw H Y Y') : WH K H' a t ns n p A Z Y' := ⟨W.wd.y f w g W.hd.aliveX, W.hd.ap f w W.wd.xy, W.ok⟩
theorem WH.init {T : List Addr} (B : Bs K H a t ns n) (h : HandAt K H p A Z) (ok : Z.Ok) (tx : t ∉ A.X p) : WH K H a t ns n p A Z [] := ⟨⟨B, tx, (by simp), fun _ _ z => nomatch z⟩, h, ok⟩
theorem WH.fresh {H0 : Hp} (W : WH K H0 a t ns n p A Z []) (s : Same H0 H) (hy : ∀ y ∈ Y, H0 y = none) : WH K H a t ns n p A Z Y := by
  refine ⟨⟨W.wd.bs.same s, W.wd.tx, fun z => ?_, fun x hx z => W.hd.aliveX x hx (hy x z)⟩, W.hd.same s, W.ok⟩
  have := W.wd.bs.alive t (by simp)
  exact this (hy t z)
end
/-- a hand and the law's own line -/
structure W4 (K : PySem.W.Frag) (H : Hp) (a t : Addr) (ns : List Int) (n : Nat) (p : Addr) (A : HA) (Z : HS) (d sb sl : Addr) (kvs : List (Key × V)) (M : LineS) : Prop where
  wh : WH K H a t ns n p A Z [d, sb, sl]
  st : StAt H d sb sl kvs M
section
variable {K : PySem.W.Frag} {H H' : Hp} {a t p d sb sl sb' sl' : Addr} {ns : List Int} {n n' : Nat} {A A' : HA} {Z Z' : HS} {kvs kvs' : List (Key × V)} {M M' : LineS}
theorem W4.same (W : W4 K H a t ns n p A Z d sb sl kvs M) (s : Same H H') : W4 K H' a t ns n p A Z d sb sl kvs M := ⟨W.wh.same s, W.st.same s⟩
theorem W4.draw (W : W4 K H a t ns n p A Z d sb sl kvs M) (B : Bs K H' a t ns n') (f : Fr [t] H H') : W4 K H' a t ns n' p A Z d sb sl kvs M := ⟨W.wh.draw B f, W.st.ap f W.wh.wd.bs.wrs (ap1 W.wh.wd.ty)⟩
theorem W4.mono (W : W4 K H a t ns n p A Z d sb sl kvs M) (h : n ≤ n') : W4 K H a t ns n' p A Z d sb sl kvs M := ⟨W.wh.mono h, W.st⟩
theorem W4.hand (W : W4 K H a t ns n p A Z d sb sl kvs M) (m : Mv H H' (A.X p) (A'.X p)) (h : HandAt K H' p A' Z') (ok : Z'.Ok) : W4 K H' a t ns n p A' Z' d sb sl kvs M := ⟨W.wh.hand m h ok W.st.alive, W.st.ap m.fr W.wh.hd.wrX W.wh.wd.xy.symm⟩
theorem W4.state (W : W4 K H a t ns n p A Z d sb sl kvs M) (f : Fr [d, sb, sl] H H') (R : StAt H' d sb' sl' kvs' M') (h1 : sb' = sb ∨ H sb' = none) (h2 : sl' = sl ∨ H sl' = none) : W4 K H' a t ns n p A Z d sb' sl' kvs' M' := ⟨W.wh.law f W.st.wr (((nw_nil.or h2 (by simp)).or h1 (by simp)).old (by simp)), R⟩
end
/-- text and caret as data -/
def twoD (x : Str) (i : Int) : PyData := .tuple [.str x, .int i]
theorem dp_two {K : PySem.W.Frag} {H : Hp} {r : Addr} {x : Str} {i : Int} (h : H r = some (.tup [.str x, .int i])) : Dp K H (.ref r) (twoD x i) := .tup (SqT.of h) (.cons (.str _) (.cons (.int _) .nil))
theorem sh_two {x : Str} {i : Int} (h : plainS x = true) : Sh 1 (twoD x i) := .tup (Shs.cons (.str h) (.cons .int shs_nil))
theorem z_nowNe {K : PySem.W.Frag} {H : Hp} {Q : VK} {r ra : Addr} {P : Pic} {x : Str} {i : Int} (hp : PicAt H r P) (hra : H ra = none) (ex : P.txt = x) (ei : P.at_ = i) (pl : plainS x = true) (k : ∀ H', Same H H' → Q (.bl false) H') : rSlT K (.ref r) none (some 2) (upd H ra (.tup [.str x, .int i])) (fun y H2 => rNeD K (.ref ra) y H2 Q) := by
  subst ex ei
  refine z_now2 (hp.same (Same.new (Same.refl _) hra)) fun rb hrb => ?_
  exact z_neS (dp_two (upd_new hrb upd_same)) (dp_two upd_same) (sh_two pl).ok (k _ (Same.new (Same.new (Same.refl _) hra) hrb))
namespace HS
theorem putYank_ts {Z : HS} {f l : Int} : (Z.putYank f l).times = Z.times ∧ (Z.putYank f l).srch = Z.srch := by
  unfold putYank; dsimp only; split <;> exact ⟨rfl, rfl⟩
theorem doYank_ts {Z : HS} {key : Str} : (Z.doYank key).times = Z.times ∧ (Z.doYank key).srch = Z.srch := by
  unfold doYank
  split
  · exact putYank_ts
  · split
    · exact ⟨rfl, rfl⟩
    · exact putYank_ts
theorem fill_ts {Z : HS} : Z.fill.times = Z.times ∧ Z.fill.srch = Z.srch := by
  unfold HS.fill
  split
  · unfold nextChoice; dsimp only; split
    · rw [filled_eq]; exact ⟨rfl, rfl⟩
    · exact ⟨rfl, rfl⟩
  · dsimp only; split
    · rw [filled_eq]; exact ⟨rfl, rfl⟩
    · split
      · rw [filled_eq]; exact ⟨rfl, rfl⟩
      · split <;> exact ⟨rfl, rfl⟩
theorem other_ts {Z : HS} {key : Str} (hk : ¬ key = "search") : (Z.other key).times = Z.times ∧ (Z.other key).srch = Z.srch := by
  unfold HS.other
  repeat' split
  all_goals first
    | exact ⟨rfl, rfl⟩
    | exact fill_ts
    | (exact absurd (by assumption) hk)
theorem recall_ts {Z : HS} {sp : Int} : (Z.recall sp).times = Z.times ∧ (Z.recall sp).srch = Z.srch := by
  unfold HS.recall; split <;> exact ⟨rfl, rfl⟩
theorem once1_ts {Z : HS} {key : Str} (hk : ¬ key = "search") : (Z.once1 key).times = Z.times ∧ (Z.once1 key).srch = Z.srch := by
  unfold HS.once1
  split
  · exact ⟨rfl, rfl⟩
  · split
    · unfold HS.doCut; dsimp only; split <;> exact ⟨rfl, rfl⟩
    · split
      · exact ⟨rfl, rfl⟩
      · split
        · exact doYank_ts
        · split
          · exact ⟨rfl, rfl⟩
          · split
            · exact ⟨rfl, rfl⟩
            · split
              · exact recall_ts
              · exact other_ts hk
theorem once_ts {Z : HS} {key : Str} (hk : ¬ key = "search") : (Z.once key).times = Z.times ∧ (Z.once key).srch = Z.srch := by
  unfold HS.once
  split
  · split <;> exact ⟨rfl, rfl⟩
  · exact once1_ts hk
theorem again_ts {Z : HS} {key : Str} (hk : ¬ key = "search") : (Z.again key).times = Z.times ∧ (Z.again key).srch = Z.srch := once_ts hk
end HS

/-! ### keys change neither the width nor the first place shown -/
namespace HS
theorem putYank_f {Z : HS} {f l : Int} : (Z.putYank f l).f = Z.f ∧ (Z.putYank f l).w = Z.w := by
  unfold putYank; dsimp only; split <;> exact ⟨rfl, rfl⟩
theorem doYank_f {Z : HS} {key : Str} : (Z.doYank key).f = Z.f ∧ (Z.doYank key).w = Z.w := by
  unfold doYank
  split
  · exact putYank_f
  · split
    · exact ⟨rfl, rfl⟩
    · exact putYank_f
theorem fill_f {Z : HS} : Z.fill.f = Z.f ∧ Z.fill.w = Z.w := by
  unfold HS.fill
  split
  · unfold nextChoice; dsimp only; split
    · rw [filled_eq]; exact ⟨rfl, rfl⟩
    · exact ⟨rfl, rfl⟩
  · dsimp only; split
    · rw [filled_eq]; exact ⟨rfl, rfl⟩
    · split
      · rw [filled_eq]; exact ⟨rfl, rfl⟩
      · split <;> exact ⟨rfl, rfl⟩
theorem other_f {Z : HS} {key : Str} : (Z.other key).f = Z.f ∧ (Z.other key).w = Z.w := by
  unfold HS.other
  repeat' split
  all_goals first
    | exact ⟨rfl, rfl⟩
    | exact fill_f
theorem recall_f {Z : HS} {sp : Int} : (Z.recall sp).f = Z.f ∧ (Z.recall sp).w = Z.w := by
  unfold HS.recall; split <;> exact ⟨rfl, rfl⟩
theorem once1_f {Z : HS} {key : Str} : (Z.once1 key).f = Z.f ∧ (Z.once1 key).w = Z.w := by
  unfold HS.once1
  split
  · exact ⟨rfl, rfl⟩
  · split
    · unfold HS.doCut; dsimp only; split <;> exact ⟨rfl, rfl⟩
    · split
      · exact ⟨rfl, rfl⟩
      · split
        · exact doYank_f
        · split
          · exact ⟨rfl, rfl⟩
          · split
            · exact ⟨rfl, rfl⟩
            · split
              · exact recall_f
              · exact other_f
theorem once_f {Z : HS} {key : Str} : (Z.once key).f = Z.f ∧ (Z.once key).w = Z.w := by
  unfold HS.once
  split
  · split <;> exact ⟨rfl, rfl⟩
  · exact once1_f
theorem again_f {Z : HS} {key : Str} : (Z.again key).f = Z.f ∧ (Z.again key).w = Z.w := once_f
theorem seek_f {Z : HS} {q : SrchS} {b : Bool} : (Z.seek q b).f = Z.f ∧ (Z.seek q b).w = Z.w := by
  unfold HS.seek
  dsimp only
  split
  · unfold HS.showFound; split <;> exact ⟨rfl, rfl⟩
  · exact ⟨rfl, rfl⟩
theorem searched_f {Z : HS} {q : SrchS} {key : Str} : (Z.searched q key).2.f = Z.f ∧ (Z.searched q key).2.w = Z.w := by
  unfold HS.searched
  repeat' split
  all_goals first
    | exact seek_f
    | exact ⟨rfl, rfl⟩
theorem turn_f {Z : HS} {key : Str} : (Z.turn key).f = Z.f ∧ (Z.turn key).w = Z.w := by
  unfold HS.turn
  split
  · exact again_f
  · dsimp only
    split
    · exact searched_f
    · exact ⟨again_f.1.trans searched_f.1, again_f.2.trans searched_f.2⟩
theorem turns_f {key : Str} : ∀ (k : Nat) {Z : HS}, (HS.turns key k Z).f = Z.f ∧ (HS.turns key k Z).w = Z.w
  | 0, _ => ⟨rfl, rfl⟩
  | k + 1, Z => ⟨(turns_f k (Z := Z.turn key)).1.trans turn_f.1, (turns_f k (Z := Z.turn key)).2.trans turn_f.2⟩
theorem pressed1_f {Z : HS} {key : Str} : (Z.pressed1 key).f = Z.f ∧ (Z.pressed1 key).w = Z.w := by
  unfold HS.pressed1
  split
  · exact ⟨rfl, rfl⟩
  · exact turns_f _ (Z := { Z with times := none })
theorem pressed_f {Z : HS} {key : Str} : (Z.pressed key).f = Z.f ∧ (Z.pressed key).w = Z.w := by
  unfold HS.pressed
  split
  · exact pressed1_f
  · dsimp only
    split
    · exact searched_f
    · exact ⟨pressed1_f.1.trans searched_f.1, pressed1_f.2.trans searched_f.2⟩
theorem presses_f : ∀ (keys : List Str) {Z : HS}, (Z.presses keys).f = Z.f ∧ (Z.presses keys).w = Z.w
  | [], _ => ⟨rfl, rfl⟩
  | k :: r, Z => ⟨(presses_f r (Z := Z.pressed k)).1.trans pressed_f.1, (presses_f r (Z := Z.pressed k)).2.trans pressed_f.2⟩
theorem rounds_f {keys : List Str} : ∀ (k : Nat) {Z : HS}, (HS.rounds keys k Z).f = Z.f ∧ (HS.rounds keys k Z).w = Z.w
  | 0, _ => ⟨rfl, rfl⟩
  | k + 1, Z => ⟨(rounds_f k (Z := Z.presses keys)).1.trans (presses_f keys).1, (rounds_f k (Z := Z.presses keys)).2.trans (presses_f keys).2⟩
theorem press_f {Z : HS} {key : Str} : (Z.press key).f = Z.f ∧ (Z.press key).w = Z.w := by
  unfold HS.press
  split
  · exact ⟨rfl, rfl⟩
  split
  · unfold HS.stop; split <;> exact ⟨rfl, rfl⟩
  split
  · unfold HS.play
    split
    · exact rounds_f _ (Z := { Z with times := none })
    · exact ⟨rfl, rfl⟩
  · exact pressed_f (Z := { Z with kept := Z.kept.map fun l => (l ++ [key]).take 100 })
theorem pressed1_n2 {Z : HS} {key : Str} (ok : Z.Ok) : (Z.pressed1 key).n ≤ Z.n + 198 := by
  unfold HS.pressed1
  split
  · exact Nat.le_add_right _ _
  · have h := turns_n2 (key := key) (Z.times.getD 1).toNat (Z := { Z with times := none })
    have t : (Z.times.getD 1).toNat ≤ 99 := by
      cases q : Z.times with
      | none => decide
      | some k => have := ok.ti k q; show k.toNat ≤ 99; omega
    have e : ({ Z with times := none } : HS).n = Z.n := rfl
    omega
theorem pressed_n2 {Z : HS} {key : Str} (ok : Z.Ok) : (Z.pressed key).n ≤ Z.n + 199 := by
  unfold HS.pressed
  cases hs : Z.srch with
  | none => exact Nat.le_succ_of_le (pressed1_n2 ok)
  | some q =>
    dsimp only
    obtain ⟨a, b⟩ := ok.searched hs key
    split
    · rw [searched_n]; omega
    · have := pressed1_n2 (key := key) a
      rw [searched_n] at this
      omega
theorem keptOk {Z : HS} {key : Str} (h : Z.Ok) (hk : isKey key = true) (hr : key ∉ RSP) : ({ Z with kept := Z.kept.map fun l => (l ++ [key]).take 100 } : HS).Ok := by
  refine ⟨h.li, h.ri, h.hi, h.wo, h.wl, h.w4, h.w400, h.f0, h.eo, h.el, h.cu, h.ti, h.ya, h.ch, h.sr, (fun l z => ?_), h.ma⟩
  obtain ⟨l0, h0, rfl⟩ := Option.map_eq_some_iff.mp (show (Z.kept.map fun l => (l ++ [key]).take 100) = some l from z)
  obtain ⟨_, k2⟩ := h.ke l0 h0
  refine ⟨by rw [List.length_take]; exact Nat.min_le_left _ _, fun k hk' => ?_⟩
  rcases List.mem_append.mp (List.mem_of_mem_take hk') with z | z
  · exact k2 k z
  · rw [List.mem_singleton.mp z]; exact ⟨hk, hr⟩
theorem press_plain {Z : HS} {key : Str} (hr : key ∉ RSP) : Z.press key = ({ Z with kept := Z.kept.map fun l => (l ++ [key]).take 100 } : HS).pressed key := by
  unfold RSP at hr
  simp only [List.mem_cons, List.not_mem_nil, or_false, not_or] at hr
  unfold HS.press
  rw [if_neg hr.1, if_neg hr.2.1, if_neg hr.2.2]
theorem press_n2 {Z : HS} {key : Str} (ok : Z.Ok) (hk : isKey key = true) (hr : key ∉ RSP) : (Z.press key).n ≤ Z.n + 199 := by
  rw [press_plain hr]
  exact pressed_n2 (keptOk ok hk hr)
def viewed (Z : HS) : HS := { Z with f := (winView Z.w Z.f Z.line.now Z.line.caret).2.2 }
theorem Ok.viewed {Z : HS} (h : Z.Ok) : Z.viewed.Ok := ⟨h.li, h.ri, h.hi, h.wo, h.wl, h.w4, h.w400, winView_first h.w4 h.f0 h.li.ok.caret, h.eo, h.el, h.cu, h.ti, h.ya, h.ch, h.sr, h.ke, h.ma⟩
end HS
theorem winFirst_again {w f n a : Int} (hw : 4 ≤ w) (hn : w ≤ n) (hf : 0 ≤ f) (h0 : 0 ≤ a) (ha : a ≤ n) : winFirst w (winFirst w f n a) n a = winFirst w f n a := by
  unfold winFirst; omega
theorem winView_again {w f : Int} {x : Str} {a : Int} (hw : 4 ≤ w) (hf : 0 ≤ f) (ha : LineS.place x a) : winView w (winView w f x a).2.2 x a = winView w f x a := by
  unfold LineS.place at ha
  unfold winView
  by_cases h : (x.length : Int) < w
  · rw [if_pos h, if_pos h]
  · simp only [if_neg h]
    rw [winFirst_again hw (by omega) hf ha.1 ha.2]
theorem viewed_again {Z : HS} (h : Z.Ok) : Z.viewed.viewed = Z.viewed := by
  show ({ Z.viewed with f := (winView Z.w (winView Z.w Z.f Z.line.now Z.line.caret).2.2 Z.line.now Z.line.caret).2.2 } : HS) = _
  rw [winView_again h.w4 h.f0 h.li.ok.caret]; rfl

/-! ### a law's own line and history -/
theorem Fr.nwA {H H' : Hp} {S : List Addr} {y : Addr} (f : Fr S H H') (e : H' y = none) : y ∈ S ∨ H y = none := by
  by_cases h : y ∈ S
  · exact .inl h
  · exact .inr (f.free e h)
theorem Nw.any {H : Hp} {X X' : List Addr} {x : Addr} (t : Nw H X X') (h : x ∈ X ∨ H x = none) : Nw H X (x :: X') := fun y hy => by
  rcases List.mem_cons.mp hy with rfl | z
  · exact h
  · exact t y z
def s2K : List Str := stK ++ (["kept", "shown", "here", "told"] : List Str)
theorem ex_s2 {a b : List (Key × V)} (h : Ex stK a b) : Ex s2K a b := h.mono (by decide)
structure S2 (H : Hp) (d sb sl lk ls lt : Addr) (kvs : List (Key × V)) (M : LineS) (q : HistS) (ent : List Str) : Prop where
  st : StAt H d sb sl kvs M
  kk : DG kvs "kept" (.ref lk)
  ks : DG kvs "shown" (.ref ls)
  kh : DG kvs "here" (.int (q.spot : Nat))
  kt : DG kvs "told" (.ref lt)
  hk : H lk = some (.lst (q.kept.map V.str))
  hs : H ls = some (.lst (q.shown.map V.str))
  ht : H lt = some (.lst (ent.map V.str))
  n1 : lk ≠ ls
  n2 : lk ≠ lt
  n3 : ls ≠ lt
  ap : Ap [lk, ls, lt] [d, sb, sl]
theorem StAt.putOther {H : Hp} {d sb sl : Addr} {kvs : List (Key × V)} {M : LineS} {x : Str} {v : V} (R : StAt H d sb sl kvs M) (hx : x ∉ stK) (hl : (putK kvs (.inr x) v).length ≤ 100) : StAt (upd H d (.dK (putK kvs (.inr x) v))) d sb sl (putK kvs (.inr x) v) M := by
  obtain ⟨ho, hlen, ⟨r0, hr, hp⟩, kb, kl, kr, hb, hll, hne⟩ := id R
  have f : Fr [d] H (upd H d (.dK (putK kvs (.inr x) v))) := Fr.upd Fr.refl (by simp)
  have nt : Nt H [d] := .cons (nt_dK ho) nt_nil
  have n : ∀ y ∈ stK, (y == x) = false := fun y hy => beq_eq_false_iff_ne.mpr fun z => hx (z ▸ hy)
  exact ⟨upd_same, hl, ⟨r0, dg_ne (n _ (by decide)) hr, hp.fr f nt⟩, dg_ne (n _ (by decide)) kb, dg_ne (n _ (by decide)) kl, dg_ne (n _ (by decide)) kr, hb.fr f nt (not_mem1 R.nes.1.symm), hll.fr f nt (not_mem1 R.nes.2.symm), hne⟩
section
variable {H H' : Hp} {d sb sl lk ls lt sb' sl' : Addr} {kvs kvs' : List (Key × V)} {M M' : LineS} {q : HistS} {ent : List Str} {S : List Addr}
theorem S2.wr (R : S2 H d sb sl lk ls lt kvs M q ent) : Wrs H [d, sb, sl, lk, ls, lt] := R.st.wr.app (T := [lk, ls, lt]) (.cons (.lst R.hk) (.cons (.lst R.hs) (.cons (.lst R.ht) wrs_nil)))
theorem S2.alive (R : S2 H d sb sl lk ls lt kvs M q ent) : Alive H [d, sb, sl, lk, ls, lt] := R.st.alive.app (Y := [lk, ls, lt]) (by
  intro y hy
  simp only [List.mem_cons, List.not_mem_nil, or_false] at hy
  rcases hy with rfl | rfl | rfl
  · rw [R.hk]; simp
  · rw [R.hs]; simp
  · rw [R.ht]; simp)
theorem S2.fr (R : S2 H d sb sl lk ls lt kvs M q ent) (f : Fr S H H') (w : Wrs H S) (n : Ap [d, sb, sl, lk, ls, lt] S) : S2 H' d sb sl lk ls lt kvs M q ent :=
  ⟨R.st.ap f w (n.sub (by simp)), R.kk, R.ks, R.kh, R.kt, f _ _ R.hk (n lk (by simp)), f _ _ R.hs (n ls (by simp)), f _ _ R.ht (n lt (by simp)), R.n1, R.n2, R.n3, R.ap⟩
theorem S2.same (R : S2 H d sb sl lk ls lt kvs M q ent) (s : Same H H') : S2 H' d sb sl lk ls lt kvs M q ent := R.fr (S := []) (Fr.same s) wrs_nil fun _ _ z => nomatch z
/-- the line is changed -/
theorem S2.edit (R : S2 H d sb sl lk ls lt kvs M q ent) (R' : StAt H' d sb' sl' kvs' M') (h1 : sb' = sb ∨ H sb' = none) (h2 : sl' = sl ∨ H sl' = none) (x : Ex stK kvs kvs') (f : Fr [d, sb, sl] H H') : S2 H' d sb' sl' lk ls lt kvs' M' q ent := by
  have nw : Nw H [d, sb, sl] [d, sb', sl'] := ((nw_nil.or h2 (by simp)).or h1 (by simp)).old (by simp)
  have al : Alive H [lk, ls, lt] := fun y hy => R.alive y (by simp only [List.mem_cons, List.not_mem_nil, or_false] at hy ⊢; rcases hy with rfl | rfl | rfl <;> simp)
  exact ⟨R', x.dg R.kk (by decide), x.dg R.ks (by decide), x.dg R.kh (by decide), x.dg R.kt (by decide), f _ _ R.hk (R.ap lk (by simp)), f _ _ R.hs (R.ap ls (by simp)), f _ _ R.ht (R.ap lt (by simp)), R.n1, R.n2, R.n3, (R.ap.symm.new nw al).symm⟩
theorem S2.nw3 (R : S2 H d sb sl lk ls lt kvs M q ent) (h1 : sb' = sb ∨ H sb' = none) (h2 : sl' = sl ∨ H sl' = none) : Nw H [d, sb, sl, lk, ls, lt] [d, sb', sl', lk, ls, lt] :=
  ((((((nw_nil.old (by simp)).old (by simp)).old (by simp)).or h2 (by simp)).or h1 (by simp)).old (by simp))
theorem S2.setShown (R : S2 H d sb sl lk ls lt kvs M q ent) (ss : List Str) : S2 (upd H ls (.lst (ss.map V.str))) d sb sl lk ls lt kvs M { q with shown := ss } ent := by
  have f : Fr [ls] H (upd H ls (.lst (ss.map V.str))) := Fr.upd Fr.refl (by simp)
  have w : Wrs H [ls] := .cons (.lst R.hs) wrs_nil
  have n : Ap [d, sb, sl] [ls] := fun y hy z => R.ap ls (by simp) (List.mem_singleton.mp z ▸ hy)
  exact ⟨R.st.ap f w n, R.kk, R.ks, R.kh, R.kt, f _ _ R.hk (by simpa using R.n1), upd_same, f _ _ R.ht (by simpa using R.n3.symm), R.n1, R.n2, R.n3, R.ap⟩
theorem S2.addTold (R : S2 H d sb sl lk ls lt kvs M q ent) (es : List Str) : S2 (upd H lt (.lst (es.map V.str))) d sb sl lk ls lt kvs M q es := by
  have f : Fr [lt] H (upd H lt (.lst (es.map V.str))) := Fr.upd Fr.refl (by simp)
  have w : Wrs H [lt] := .cons (.lst R.ht) wrs_nil
  have n : Ap [d, sb, sl] [lt] := fun y hy z => R.ap lt (by simp) (List.mem_singleton.mp z ▸ hy)
  exact ⟨R.st.ap f w n, R.kk, R.ks, R.kh, R.kt, f _ _ R.hk (by simpa using R.n2), f _ _ R.hs (by simpa using R.n3), upd_same, R.n1, R.n2, R.n3, R.ap⟩
theorem S2.putHere (R : S2 H d sb sl lk ls lt kvs M q ent) (j : Nat) : S2 (upd H d (.dK (putK kvs (.inr "here") (.int (j : Nat))))) d sb sl lk ls lt (putK kvs (.inr "here") (.int (j : Nat))) M { q with spot := j } ent := by
  have f : Fr [d] H (upd H d (.dK (putK kvs (.inr "here") (.int (j : Nat))))) := Fr.upd Fr.refl (by simp)
  have hn : ∀ y ∈ [lk, ls, lt], y ∉ [d] := fun y hy z => R.ap y hy (by simp only [List.mem_singleton] at z; rw [z]; simp)
  exact ⟨R.st.putOther (by decide) (by rw [put_len R.kh]; exact R.st.len), dg_ne rfl R.kk, dg_ne rfl R.ks, dg_same, dg_ne rfl R.kt, f _ _ R.hk (hn lk (by simp)), f _ _ R.hs (hn ls (by simp)), f _ _ R.ht (hn lt (by simp)), R.n1, R.n2, R.n3, R.ap⟩
theorem S2.putKept {b : Addr} {ks : List Str} (R : S2 H d sb sl lk ls lt kvs M q ent) (hb : H b = some (.lst (ks.map V.str))) (nb : Ap [b] [d, sb, sl]) (m1 : b ≠ ls) (m2 : b ≠ lt) : S2 (upd H d (.dK (putK kvs (.inr "kept") (.ref b)))) d sb sl b ls lt (putK kvs (.inr "kept") (.ref b)) M { q with kept := ks } ent := by
  have f : Fr [d] H (upd H d (.dK (putK kvs (.inr "kept") (.ref b)))) := Fr.upd Fr.refl (by simp)
  have hn : ∀ y ∈ [lk, ls, lt], y ∉ [d] := fun y hy z => R.ap y hy (by simp only [List.mem_singleton] at z; rw [z]; simp)
  refine ⟨R.st.putOther (by decide) (by rw [put_len R.kk]; exact R.st.len), dg_same, dg_ne rfl R.ks, dg_ne rfl R.kh, dg_ne rfl R.kt, f _ _ hb (fun z => nb b (by simp) (by simp only [List.mem_singleton] at z; rw [z]; simp)), f _ _ R.hs (hn ls (by simp)), f _ _ R.ht (hn lt (by simp)), m1, m2, R.n3, fun y hy => ?_⟩
  rcases List.mem_cons.mp hy with rfl | z
  · exact nb _ (by simp)
  · exact R.ap y (List.mem_cons_of_mem _ z)
theorem S2.putShown {b : Addr} {ss : List Str} (R : S2 H d sb sl lk ls lt kvs M q ent) (hb : H b = some (.lst (ss.map V.str))) (nb : Ap [b] [d, sb, sl]) (m1 : lk ≠ b) (m2 : b ≠ lt) : S2 (upd H d (.dK (putK kvs (.inr "shown") (.ref b)))) d sb sl lk b lt (putK kvs (.inr "shown") (.ref b)) M { q with shown := ss } ent := by
  have f : Fr [d] H (upd H d (.dK (putK kvs (.inr "shown") (.ref b)))) := Fr.upd Fr.refl (by simp)
  have hn : ∀ y ∈ [lk, ls, lt], y ∉ [d] := fun y hy z => R.ap y hy (by simp only [List.mem_singleton] at z; rw [z]; simp)
  refine ⟨R.st.putOther (by decide) (by rw [put_len R.ks]; exact R.st.len), dg_ne rfl R.kk, dg_same, dg_ne rfl R.kh, dg_ne rfl R.kt, f _ _ R.hk (hn lk (by simp)), f _ _ hb (fun z => nb b (by simp) (by simp only [List.mem_singleton] at z; rw [z]; simp)), f _ _ R.ht (hn lt (by simp)), m1, R.n2, m2, fun y hy => ?_⟩
  simp only [List.mem_cons, List.not_mem_nil, or_false] at hy
  rcases hy with rfl | rfl | rfl
  · exact R.ap _ (by simp)
  · exact nb _ (by simp)
  · exact R.ap _ (by simp)
/-- a new list is apart -/
theorem S2.fresh {b : Addr} (R : S2 H d sb sl lk ls lt kvs M q ent) (hb : H b = none) : Ap [b] [d, sb, sl] ∧ b ≠ lk ∧ b ≠ ls ∧ b ≠ lt := by
  have al := R.alive
  refine ⟨fun y hy z => ?_, fun z => al b (by simp [z]) hb, fun z => al b (by simp [z]) hb, fun z => al b (by simp [z]) hb⟩
  rw [List.mem_singleton.mp hy] at z
  exact R.st.alive b z hb
theorem S2.nd (R : S2 H d sb sl lk ls lt kvs M q ent) : lk ≠ d ∧ ls ≠ d ∧ lt ≠ d := ⟨fun z => R.ap lk (by simp) (by simp [z]), fun z => R.ap ls (by simp) (by simp [z]), fun z => R.ap lt (by simp) (by simp [z])⟩
end
/-! ### keys of the line and the history -/
def recallL (M : LineS) (q : HistS) (g : Int) : LineS × HistS := if 0 ≤ g ∧ g ≤ (q.kept.length : Int) then (LineS.fresh ((q.keep M.now).shown.getD g.toNat ""), { q.keep M.now with spot := g.toNat }) else (M.rest, q)
def stepL (M : LineS) (q : HistS) (ent : List Str) (key : Str) : LineS × HistS × List Str :=
  if key ∈ (["up", "down"] : List Str) then ((recallL M q ((q.spot : Int) + (if key = "down" then 1 else -1))).1, (recallL M q ((q.spot : Int) + (if key = "down" then 1 else -1))).2, ent)
  else if key = "enter" then (LineS.fresh "", q.add M.now, ent ++ [M.now])
  else (editL M key, q, ent)
def histK (key : Str) : Bool := editK key || decide (key ∈ (["up", "down", "enter"] : List Str))
theorem press_hist {Z : HS} {key : Str} (h : Z.Calm) (hk : histK key = true) : isKey key = true ∧ (Z.press key).Calm ∧ (Z.press key).n = Z.n + 1 ∧ (Z.press key).line = (stepL Z.line Z.hist Z.ent key).1 ∧ (Z.press key).hist = (stepL Z.line Z.hist Z.ent key).2.1 ∧ (Z.press key).ent = (stepL Z.line Z.hist Z.ent key).2.2 := by
  unfold histK at hk
  rw [Bool.or_eq_true] at hk
  by_cases he : editK key = true
  · obtain ⟨e, c⟩ := press_edit h he
    have n1 : key ∉ (["up", "down"] : List Str) ∧ ¬ key = "enter" := by
      unfold editK at he
      rw [Bool.or_eq_true] at he
      rcases he with z | z
      · exact ⟨fun q => by simp only [List.mem_cons, List.not_mem_nil, or_false] at q; rcases q with q | q; exact sign_no z (by decide) q; exact sign_no z (by decide) q, sign_no z (by decide)⟩
      · obtain ⟨_, _, e3, _, _, _, e7, _⟩ := edits_not key (of_decide_eq_true z)
        exact ⟨e3, e7⟩
    rw [e]
    unfold stepL
    rw [if_neg n1.1, if_neg n1.2]
    exact ⟨(edit_key he).1, c, rfl, rfl, rfl, rfl⟩
  · have hk := of_decide_eq_true (hk.resolve_left he)
    have facts : ∀ k ∈ (["up", "down", "enter"] : List Str), isKey k = true ∧ isFig k = false ∧ k ∉ RSP ∧ k ∉ CUTS ∧ k ∉ (["yank", "pop"] : List Str) ∧ ¬ k = "fill" ∧ isSign k = false ∧ k ∉ MOVES ∧ k ∉ (["rub", "del"] : List Str) ∧ k ∉ (["great", "small", "cap"] : List Str) ∧ k ∉ (["undo", "redo"] : List Str) := by decide +kernel
    obtain ⟨f1, f2, f3, f4, f5, f6, f7, f8, f9, f10, f11⟩ := facts key hk
    rw [press_calm h f2 f3, HS.again_eq f4 f5 f6, HS.once_not f7, HS.once1, if_neg f8, if_neg f4, if_neg f9, if_neg f5, if_neg f10, if_neg f11]
    refine ⟨f1, ?_⟩
    by_cases hu : key ∈ (["up", "down"] : List Str)
    · rw [if_pos hu]
      unfold stepL
      rw [if_pos hu]
      unfold HS.recall recallL
      by_cases c : 0 ≤ ((Z.hist.spot : Int) + (if key = "down" then 1 else -1)) ∧ ((Z.hist.spot : Int) + (if key = "down" then 1 else -1)) ≤ (Z.hist.kept.length : Int)
      · rw [if_pos (show 0 ≤ ((({ Z with line := Z.line.rest } : HS).hist.spot : Int) + (if key = "down" then 1 else -1)) ∧ ((({ Z with line := Z.line.rest } : HS).hist.spot : Int) + (if key = "down" then 1 else -1)) ≤ (({ Z with line := Z.line.rest } : HS).hist.kept.length : Int) from c), if_pos c]
        exact ⟨⟨h.t, h.s, h.k⟩, rfl, rfl, rfl, rfl⟩
      · rw [if_neg (show ¬ (0 ≤ ((({ Z with line := Z.line.rest } : HS).hist.spot : Int) + (if key = "down" then 1 else -1)) ∧ ((({ Z with line := Z.line.rest } : HS).hist.spot : Int) + (if key = "down" then 1 else -1)) ≤ (({ Z with line := Z.line.rest } : HS).hist.kept.length : Int)) from c), if_neg c]
        exact ⟨⟨h.t, h.s, h.k⟩, rfl, rfl, rfl, rfl⟩
    · have he : key = "enter" := by
        simp only [List.mem_cons, List.not_mem_nil, or_false] at hk hu
        rcases hk with z | z | z
        · exact absurd (.inl z) hu
        · exact absurd (.inr z) hu
        · exact z
      rw [if_neg hu]
      unfold stepL
      rw [if_neg hu, if_pos he]
      subst he
      unfold HS.other
      rw [if_neg (by decide), if_neg (by decide), if_neg (by decide), if_neg (by decide), if_neg (by decide), if_neg (by decide), if_pos rfl]
      exact ⟨⟨h.t, h.s, h.k⟩, rfl, rfl, rfl, rfl⟩
/-! ### a hand, a law's own line and history, a list of keys -/
structure W2 (K : PySem.W.Frag) (H : Hp) (a t : Addr) (ns : List Int) (n : Nat) (p : Addr) (A : HA) (Z : HS) (d sb sl lk ls lt : Addr) (kvs : List (Key × V)) (M : LineS) (q : HistS) (ent : List Str) (sq : Addr) (KS : List Str) : Prop where
  wh : WH K H a t ns n p A Z [d, sb, sl, lk, ls, lt, sq]
  s2 : S2 H d sb sl lk ls lt kvs M q ent
  l : H sq = some (.lst (KS.map V.str))
  nl : sq ∉ [d, sb, sl, lk, ls, lt]
section
variable {K : PySem.W.Frag} {H H' : Hp} {a t p d sb sl lk ls lt sq sb' sl' lk' ls' lt' sq' : Addr} {ns : List Int} {n n' : Nat} {A A' : HA} {Z Z' : HS} {kvs kvs' : List (Key × V)} {M M' : LineS} {q q' : HistS} {ent ent' KS : List Str}
theorem W2.alive (W : W2 K H a t ns n p A Z d sb sl lk ls lt kvs M q ent sq KS) : Alive H [d, sb, sl, lk, ls, lt, sq] := W.s2.alive.app (Y := [sq]) (wr1_lst W.l).2
theorem W2.wrs (W : W2 K H a t ns n p A Z d sb sl lk ls lt kvs M q ent sq KS) : Wrs H [d, sb, sl, lk, ls, lt, sq] := W.s2.wr.app (T := [sq]) (wr1_lst W.l).1
theorem W2.same (W : W2 K H a t ns n p A Z d sb sl lk ls lt kvs M q ent sq KS) (s : Same H H') : W2 K H' a t ns n p A Z d sb sl lk ls lt kvs M q ent sq KS := ⟨W.wh.same s, W.s2.same s, s _ _ W.l, W.nl⟩
theorem W2.mono (W : W2 K H a t ns n p A Z d sb sl lk ls lt kvs M q ent sq KS) (h : n ≤ n') : W2 K H a t ns n' p A Z d sb sl lk ls lt kvs M q ent sq KS := ⟨W.wh.mono h, W.s2, W.l, W.nl⟩
theorem W2.draw (W : W2 K H a t ns n p A Z d sb sl lk ls lt kvs M q ent sq KS) (B : Bs K H' a t ns n') (f : Fr [t] H H') : W2 K H' a t ns n' p A Z d sb sl lk ls lt kvs M q ent sq KS :=
  ⟨W.wh.draw B f, W.s2.fr f W.wh.wd.bs.wrs ((ap1 W.wh.wd.ty).sub (by simp only [List.mem_cons, List.not_mem_nil, or_false]; rintro x (h | h | h | h | h | h) <;> simp [h])), f _ _ W.l (fun z => W.wh.wd.ty (by rw [← List.mem_singleton.mp z]; simp)), W.nl⟩
theorem W2.hand (W : W2 K H a t ns n p A Z d sb sl lk ls lt kvs M q ent sq KS) (m : Mv H H' (A.X p) (A'.X p)) (h : HandAt K H' p A' Z') (ok : Z'.Ok) : W2 K H' a t ns n p A' Z' d sb sl lk ls lt kvs M q ent sq KS :=
  ⟨W.wh.hand m h ok W.alive, W.s2.fr m.fr W.wh.hd.wrX (W.wh.wd.xy.symm.sub (by simp only [List.mem_cons, List.not_mem_nil, or_false]; rintro x (h | h | h | h | h | h) <;> simp [h])), m.fr _ _ W.l (W.wh.wd.xy.symm sq (by simp)), W.nl⟩
theorem W2.state (W : W2 K H a t ns n p A Z d sb sl lk ls lt kvs M q ent sq KS) (f : Fr [d, sb, sl, lk, ls, lt] H H') (nw : Nw H [d, sb, sl, lk, ls, lt] [d, sb', sl', lk', ls', lt]) (R : S2 H' d sb' sl' lk' ls' lt kvs' M' q' ent') : W2 K H' a t ns n p A Z d sb' sl' lk' ls' lt kvs' M' q' ent' sq KS := by
  refine ⟨W.wh.law (f.mono (by simp only [List.mem_cons, List.not_mem_nil, or_false]; rintro x (h | h | h | h | h | h) <;> simp [h])) W.wrs ?_, R, f _ _ W.l W.nl, fun z => ?_⟩
  · intro y hy
    have hy : y ∈ [d, sb', sl', lk', ls', lt] ++ [sq] := hy
    rcases List.mem_append.mp hy with z | z
    · rcases nw y z with e | e
      · exact .inl (show y ∈ [d, sb, sl, lk, ls, lt] ++ [sq] from List.mem_append_left _ e)
      · exact .inr e
    · exact .inl (show y ∈ [d, sb, sl, lk, ls, lt] ++ [sq] from List.mem_append_right _ z)
  · rcases nw sq z with e | e
    · exact W.nl e
    · rw [W.l] at e; cases e
theorem W2.push (W : W2 K H a t ns n p A Z d sb sl lk ls lt kvs M q ent sq KS) (ks : List Str) : W2 K (upd H sq (.lst (ks.map V.str))) a t ns n p A Z d sb sl lk ls lt kvs M q ent sq ks := by
  have f : Fr [sq] H (upd H sq (.lst (ks.map V.str))) := Fr.upd Fr.refl (by simp)
  exact ⟨W.wh.law (f.mono (by simp)) W.wrs nw_refl, W.s2.fr f (wr1_lst W.l).1 (ap1 W.nl), upd_same, W.nl⟩
theorem W2.newl (W : W2 K H a t ns n p A Z d sb sl lk ls lt kvs M q ent sq KS) (h : H sq' = none) (ks : List Str) : W2 K (upd H sq' (.lst (ks.map V.str))) a t ns n p A Z d sb sl lk ls lt kvs M q ent sq' ks := by
  have s : Same H (upd H sq' (.lst (ks.map V.str))) := Same.new (Same.refl _) h
  have V := W.wh.same s
  refine ⟨⟨⟨V.wd.bs, V.wd.tx, fun z => ?_, fun x hx z => ?_⟩, V.hd, V.ok⟩, W.s2.same s, upd_same, fun z => W.s2.alive sq' z h⟩
  · have z : t ∈ [d, sb, sl, lk, ls, lt] ++ [sq'] := z
    rcases List.mem_append.mp z with e | e
    · exact W.wh.wd.ty (show t ∈ [d, sb, sl, lk, ls, lt] ++ [sq] from List.mem_append_left _ e)
    · exact W.wh.wd.bs.alive t (by simp) (List.mem_singleton.mp e ▸ h)
  · have z : x ∈ [d, sb, sl, lk, ls, lt] ++ [sq'] := z
    rcases List.mem_append.mp z with e | e
    · exact W.wh.wd.xy x hx (show x ∈ [d, sb, sl, lk, ls, lt] ++ [sq] from List.mem_append_left _ e)
    · exact W.wh.hd.aliveX x hx (List.mem_singleton.mp e ▸ h)
end
theorem sign_one {c : Nat} (h : okc c = true) : histK ⟨#[c]⟩ = true := by
  have : isSign ⟨#[c]⟩ = true := h
  unfold histK editK
  rw [this]; rfl

/-! ### a law's own search -/
def s3K : List Str := s2K ++ (["was", "part", "trail"] : List Str)
theorem ex_s3 {a b : List (Key × V)} (h : Ex s2K a b) : Ex s3K a b := h.mono fun x hx => List.mem_append_left _ hx
def Sr3 (H : Hp) (kvs : List (Key × V)) (fp : List Addr) : Option SrchS → Prop
  | none => DG kvs "was" .non ∧ fp = []
  | some q => ∃ rw rn lt2, DG kvs "was" (.ref rw) ∧ H rw = some (.tup [.ref rn, .int (q.spot : Nat)]) ∧ PicAt H rn q.was ∧ DG kvs "part" (.str q.part) ∧ DG kvs "trail" (.ref lt2) ∧ TrailAt H lt2 q.trail ∧ fp = [lt2]
/-- the dict is small; what a search stores is there, or there is room for it -/
def Sm3 (kvs : List (Key × V)) : Prop := Has kvs "was" ∧ (kvs.length ≤ 9 ∨ (kvs.length ≤ 11 ∧ Has kvs "part" ∧ Has kvs "trail"))
structure S3 (H : Hp) (d sb sl lk ls lt : Addr) (kvs : List (Key × V)) (M : LineS) (q : HistS) (ent : List Str) (fp : List Addr) (s : Option SrchS) : Prop where
  s2 : S2 H d sb sl lk ls lt kvs M q ent
  sr : Sr3 H kvs fp s
  nf : Ap fp [d, sb, sl, lk, ls, lt]
  sm : Sm3 kvs
section
variable {H H' : Hp} {d sb sl lk ls lt sb' sl' lk' ls' : Addr} {kvs kvs' : List (Key × V)} {M M' : LineS} {q q' : HistS} {ent ent' : List Str} {fp : List Addr} {s : Option SrchS} {S : List Addr}
theorem S2.has (R : S2 H d sb sl lk ls lt kvs M q ent) : ∀ x ∈ s2K, Has kvs x := by
  obtain ⟨r, hr, _⟩ := R.st.now
  intro x hx
  simp only [s2K, stK, List.cons_append, List.nil_append, List.mem_cons, List.not_mem_nil, or_false] at hx
  rcases hx with rfl | rfl | rfl | rfl | rfl | rfl | rfl | rfl
  · exact ⟨_, hr⟩
  · exact ⟨_, R.st.kb⟩
  · exact ⟨_, R.st.kl⟩
  · exact ⟨_, R.st.kr⟩
  · exact ⟨_, R.kk⟩
  · exact ⟨_, R.ks⟩
  · exact ⟨_, R.kh⟩
  · exact ⟨_, R.kt⟩
theorem Sr3.fr (R : Sr3 H kvs fp s) (f : Fr S H H') (w : Wrs H S) (n : Ap fp S) : Sr3 H' kvs fp s := by
  cases s with
  | none => exact R
  | some q =>
    obtain ⟨rw, rn, lt2, a, b, c, e, g, h, rfl⟩ := R
    exact ⟨rw, rn, lt2, a, f _ _ b (fun z => w.nt _ z _ b), c.fr f w.nt, e, g, h.fr f w.nt (n lt2 (by simp)), rfl⟩
theorem Sr3.ex (R : Sr3 H kvs fp s) (x : Ex s2K kvs kvs') : Sr3 H kvs' fp s := by
  cases s with
  | none => exact ⟨x.dg R.1 (by decide), R.2⟩
  | some q =>
    obtain ⟨rw, rn, lt2, a, b, c, e, g, h, i⟩ := R
    exact ⟨rw, rn, lt2, x.dg a (by decide), b, c, x.dg e (by decide), x.dg g (by decide), h, i⟩
theorem Sr3.wr (R : Sr3 H kvs fp s) : Wrs H fp ∧ Alive H fp := by
  cases s with
  | none => obtain ⟨_, rfl⟩ := R; exact ⟨wrs_nil, fun _ h => nomatch h⟩
  | some q => obtain ⟨_, _, lt2, _, _, _, _, _, ⟨rs, e, _⟩, rfl⟩ := R; exact wr1_lst e
theorem Sm3.ex (h : Sm3 kvs) (R : S2 H d sb sl lk ls lt kvs M q ent) (x : Ex s2K kvs kvs') : Sm3 kvs' := by
  have l := x.l R.has
  exact ⟨x.h _ h.1, h.2.imp (fun z => by omega) fun z => ⟨by omega, x.h _ z.2.1, x.h _ z.2.2⟩⟩
theorem S3.wr (R : S3 H d sb sl lk ls lt kvs M q ent fp s) : Wrs H ([d, sb, sl, lk, ls, lt] ++ fp) := R.s2.wr.app R.sr.wr.1
theorem S3.alive (R : S3 H d sb sl lk ls lt kvs M q ent fp s) : Alive H ([d, sb, sl, lk, ls, lt] ++ fp) := R.s2.alive.app R.sr.wr.2
theorem S3.fr (R : S3 H d sb sl lk ls lt kvs M q ent fp s) (f : Fr S H H') (w : Wrs H S) (n : Ap ([d, sb, sl, lk, ls, lt] ++ fp) S) : S3 H' d sb sl lk ls lt kvs M q ent fp s :=
  ⟨R.s2.fr f w (n.sub fun x h => List.mem_append_left _ h), R.sr.fr f w (n.sub fun x h => List.mem_append_right _ h), R.nf, R.sm⟩
theorem S3.same (R : S3 H d sb sl lk ls lt kvs M q ent fp s) (h : Same H H') : S3 H' d sb sl lk ls lt kvs M q ent fp s := R.fr (S := []) (Fr.same h) wrs_nil fun _ _ z => nomatch z
/-- line and history are changed, the search stays -/
theorem S3.step (R : S3 H d sb sl lk ls lt kvs M q ent fp s) (R' : S2 H' d sb' sl' lk' ls' lt kvs' M' q' ent') (nw : Nw H [d, sb, sl, lk, ls, lt] [d, sb', sl', lk', ls', lt]) (x : Ex s2K kvs kvs') (f : Fr [d, sb, sl, lk, ls, lt] H H') : S3 H' d sb' sl' lk' ls' lt kvs' M' q' ent' fp s :=
  ⟨R', (R.sr.fr f R.s2.wr R.nf).ex x, (R.nf.symm.new nw R.sr.wr.2).symm, R.sm.ex R.s2 x⟩
end
/-- what is shown of a search -/
def showL (hq : HistS) (q : SrchS) : LineS × HistS := match q.last.at_ with
  | none => ((LineS.fresh q.was.txt).show_ q.was, { hq with spot := q.spot })
  | some j => ((LineS.fresh (hq.kept.getD j "")).go (Txt.find (hq.kept.getD j "") q.last.part), { hq with spot := j })
theorem showFound_eq {Z : HS} {q : SrchS} : Z.showFound q = { Z with line := (showL Z.hist q).1, hist := (showL Z.hist q).2 } := by
  unfold HS.showFound showL
  cases q.last.at_ <;> rfl
theorem trail_ends {H : Hp} {lt2 : Addr} {es : List Ent} (h : TrailAt H lt2 es) (ne : es ≠ []) : ∃ (rs : List Addr) (r : Addr), H lt2 = some (.lst ((rs ++ [r]).map V.ref)) ∧ Paired (EntAt H) rs es.dropLast ∧ EntAt H r (es.getLast?.getD ⟨none, false, ""⟩) := by
  obtain ⟨rs0, e, pp⟩ := h
  rcases List.eq_nil_or_concat es with rfl | ⟨es0, x, rfl⟩
  · exact absurd rfl ne
  · rw [List.concat_eq_append] at pp
    obtain ⟨rs, r, er, hp, hP⟩ := paired_last pp
    refine ⟨rs, r, by rw [e, er], ?_, ?_⟩
    · rw [List.concat_eq_append, List.dropLast_concat]; exact hp
    · rw [List.concat_eq_append, List.getLast?_concat]; exact hP
theorem seek_parts {Z : HS} {q : SrchS} {b : Bool} : (Z.seek q b).line = (if (b || !q.last.lost) = true then (showL Z.hist q).1 else Z.line) ∧ (Z.seek q b).hist = (if (b || !q.last.lost) = true then (showL Z.hist q).2 else Z.hist) ∧ (Z.seek q b).srch = some q := by
  unfold HS.seek
  dsimp only
  by_cases c : (b || !q.last.lost) = true
  · rw [if_pos c, if_pos c, if_pos c, showFound_eq]
    exact ⟨rfl, rfl, rfl⟩
  · rw [if_neg c, if_neg c, if_neg c]
    exact ⟨rfl, rfl, rfl⟩
theorem last_snoc {q : SrchS} {es : List Ent} {en : Ent} {x : Str} : ({ q with part := x, trail := es ++ [en] } : SrchS).last = en := by
  show (es ++ [en]).getLast?.getD _ = en
  rw [List.getLast?_concat]; rfl

local macro_rules
  | `(tactic| walk_at "ne") => `(tactic| first | assumption | exact Ne.symm (by assumption) | exact ne_of_none (by assumption) (by assumption) | exact Ne.symm (ne_of_none (by assumption) (by assumption)) | exact ne_of (by assumption) (by assumption) (by intro z; cases z))
local macro_rules
  | `(tactic| walk_at "h1") => `(tactic| first | ((with_reducible refine upd_new ?_ ?_); (focus assumption)) | ((with_reducible refine Eq.trans (upd_ne ?_) ?_); (focus walk_at "ne")) | ((with_reducible refine upd_kd ?_ ?_); (focus (refine' ⟨_, ?_, ?_⟩; rotate_left; (focus walk_at "h"); (focus exact rfl)))))
local macro_rules
  | `(tactic| walk_at "h") => `(tactic| first | assumption | exact upd_same | (walk_at "h1"; walk_at "h"))
local macro_rules
  | `(tactic| walk_at "sq") => `(tactic| first | assumption | exact SqL.of (by walk_at "h") | exact SqT.of (by walk_at "h"))
local macro_rules
  | `(tactic| walk_at "sz") => `(tactic| first | assumption | (simp only [sizeLine_eq, len_app, List.length_append, List.length_cons, List.length_nil, List.length_map, Nat.zero_add]; omega) | decide)
local macro_rules
  | `(tactic| walk_at "mem") => `(tactic| first | exact List.mem_cons_self | (apply List.mem_cons_of_mem; walk_at "mem"))
local macro_rules
  | `(tactic| walk_at "fr") => `(tactic| first | exact Fr.refl | assumption | exact Fr.same (by assumption) | (refine Fr.upd ?_ ?hm; (case hm => walk_at "mem"); walk_at "fr") | (refine Fr.new ?_ ?hm; (case hm => assumption); walk_at "fr") | (refine Fr.own ?_ ?hm; (case hm => assumption); walk_at "fr"))
local macro_rules
  | `(tactic| walk_at "sa") => `(tactic| first | exact Same.refl _ | assumption | (refine Same.new ?_ ?hm; (case hm => assumption); walk_at "sa") | (refine Same.own ?_ ?hm; (case hm => assumption); walk_at "sa"))
local macro_rules
  | `(tactic| walk_at "fl") => `(tactic| exact fl_of rfl)
local macro_rules
  | `(tactic| walk_at "dg") => `(tactic| first | assumption | exact dg_same | (refine dg_ne ?hne ?_; (case hne => first | exact rfl | decide); walk_at "dg"))
local macro_rules
  | `(tactic| walk_at "ex") => `(tactic| first | exact ex_refl | assumption | (refine Ex.put ?_ ?hm; (case hm => decide); walk_at "ex"))
local macro_rules
  | `(tactic| walk_at "dl2") => `(tactic| first | (rw [sizeLine_eq]; omega) | (refine dl_put' ?_; walk_at "dl2"))
local macro_rules
  | `(tactic| walk_at "dl") => `(tactic| first | (rw [sizeLine_eq]; omega) | (refine dl_put ?_; walk_at "dl2"))
local macro_rules
  | `(tactic| walk_at "z1") => `(tactic| first
    | ((with_reducible refine' z_var ?h0 ?_); (case h0 => exact rfl))
    | with_reducible refine z_c ?_
    | with_reducible refine z_seq ?_
    | with_reducible refine z_op ?_
    | with_reducible refine z_get ?_
    | ((with_reducible refine' z_get1 ?h0 ?h1 ?_); (case h0 => walk_at "h"); (case h1 => exact rfl))
    | with_reducible refine z_cons ?_
    | with_reducible refine z_nil ?_
    | with_reducible refine z_i0 ?_
    | with_reducible refine z_call ?_
    | with_reducible refine z_mt ?_
    | ((with_reducible refine' z_mt1 ?h0 ?h1 ?_); (case h0 => walk_at "h"); (case h1 => exact rfl))
    | with_reducible refine z_put ?_
    | ((with_reducible refine' z_put1 ?h0 ?h1 ?_); (case h0 => walk_at "h"); (case h1 => walk_at "fl"))
    | with_reducible refine z_cb ?_
    | ((with_reducible refine' z_lenS ?h0 ?_); (case h0 => walk_at "sz"))
    | ((with_reducible refine' z_lenL ?h0 ?_); (case h0 => walk_at "sq"))
    | ((with_reducible refine' z_lenT ?h0 ?_); (case h0 => walk_at "sq"))
    | with_reducible refine z_test ?_
    | with_reducible refine z_tB ?_
    | with_reducible refine z_bl ?_
    | with_reducible refine z_int ?_
    | ((with_reducible refine' z_eq ?h0 ?_); (case h0 => exact rfl))
    | ((with_reducible refine' z_ne ?h0 ?_); (case h0 => exact rfl))
    | with_reducible refine z_isN ?_
    | with_reducible refine z_notN ?_
    | with_reducible refine z_and ?_
    | with_reducible refine z_or ?_
    | with_reducible refine z_not ?_
    | with_reducible refine z_notV ?_
    | with_reducible refine z_andV ?_
    | with_reducible refine z_orV ?_
    | with_reducible refine z_chain ?_
    | with_reducible refine z_tr ?_
    | ((with_reducible refine' z_truL ?h0 ?_); (case h0 => walk_at "sq"))
    | with_reducible refine z_if ?_
    | with_reducible refine z_ifS ?_
    | with_reducible refine z_ret ?_
    | with_reducible refine z_retN ?_
    | with_reducible refine z_drop ?_
    | with_reducible refine z_next ?_
    | with_reducible refine z_asg ?_
    | with_reducible refine z_gname ?_
    | with_reducible refine z_gsub ?_
    | with_reducible refine z_gatt ?_
    | with_reducible refine z_gcons ?_
    | with_reducible refine z_gnil ?_
    | ((with_reducible refine' z_gtup ?h0 ?h1 ?_); (case h0 => walk_at "sq"); (case h1 => exact rfl))
    | ((with_reducible refine' z_ixT ?h0 ?h1 ?_); (case h0 => walk_at "sq"); (case h1 => exact rfl))
    | ((with_reducible refine' z_in ?h0 ?h1 ?h2 ?_); (case h0 => first | exact .inr (SqT.of (by walk_at "h")) | exact .inl (SqL.of (by walk_at "h"))); (case h1 => exact rfl); (case h2 => exact rfl))
    | with_reducible refine z_dget ?_
    | ((with_reducible refine' z_dget1 ?h0 ?h1 ?_); (case h0 => walk_at "h"); (case h1 => walk_at "dg"))
    | with_reducible refine z_dput ?_
    | ((with_reducible refine' z_dput1 ?h0 ?h1 ?_); (case h0 => walk_at "h"); (case h1 => walk_at "dl"))
    | with_reducible refine z_disp ?_
    | with_reducible refine z_pcons ?_
    | with_reducible refine z_pnil ?_
    | with_reducible refine z_par ?_
    | with_reducible refine z_par1 ?_
    | ((with_reducible refine' z_truS ?h0 ?_); (case h0 => walk_at "sz"))
    | with_reducible refine z_lst ?_
    | with_reducible refine z_tup ?_
    | with_reducible refine z_bm ?_
    | with_reducible refine z_bm0 ?_
    | ((with_reducible refine' z_tyL ?h0 ?_); (case h0 => walk_at "sq"))
    | with_reducible refine z_tyS ?_
    | ((with_reducible refine' z_app ?h0 ?h1 ?_); (case h0 => walk_at "h"); (case h1 => walk_at "sz"))
    | with_reducible refine z_sl ?_
    | with_reducible refine z_nop ?_
    | with_reducible refine z_isalpha ?_
    | with_reducible refine z_sortSet ?_
    | with_reducible refine z_starts ?_
    | with_reducible refine z_find ?_
    | with_reducible refine z_find3 ?_
    | with_reducible refine z_rfind4 ?_
    | with_reducible refine z_int1b ?_
    | with_reducible refine z_revL ?_
    | ((with_reducible refine' z_revL1 ?h0 ?_); (case h0 => walk_at "sq"))
    | with_reducible refine z_part ?_
    | ((with_reducible refine' z_slL ?h0 ?_); (case h0 => walk_at "sq"))
    | ((with_reducible refine' z_slS ?h0 ?_); (case h0 => walk_at "sz"))
    | ((with_reducible refine' z_cat ?h0 ?h1 ?h2 ?_); (case h0 => walk_at "h"); (case h1 => walk_at "h"); (case h2 => walk_at "sz"))
    | ((with_reducible refine' z_addS ?h0 ?_); (case h0 => walk_at "sz"))
    | with_reducible refine z_un ?_
    | with_reducible refine z_rU ?_
    | with_reducible refine z_mk ?_
    | ((with_reducible refine' z_lo ?h0 ?_); (case h0 => walk_at "sq"))
    | with_reducible refine z_min ?_
    | with_reducible refine z_max ?_
    | with_reducible refine z_raise ?_
    | with_reducible refine z_try ?_
    | ((with_reducible refine' z_ord ?h0 ?_); (case h0 => assumption))
    | ((with_reducible refine' z_imp ?h0 ?_); (case h0 => walk_at "sz"))
    | with_reducible refine z_lc ?_
    | with_reducible refine z_for ?_
    | with_reducible refine z_rng1 ?_
    | with_reducible refine z_rng2 ?_
    | with_reducible refine z_rng3 ?_
    | with_reducible refine z_inStr ?_
    | with_reducible refine z_yes ?_
    | with_reducible refine z_iStr ?_
    | with_reducible refine z_iLst ?_
    | with_reducible refine z_iTup ?_
    | with_reducible refine z_str ?_
    | ((with_reducible refine' z_sqL ?h0 ?_); (case h0 => walk_at "sq"))
    | ((with_reducible refine' z_sqT ?h0 ?_); (case h0 => walk_at "sq"))
    | with_reducible refine iteT ?_
    | with_reducible refine iteF ?_
    | ((with_reducible refine' z_ifT ?h0 ?_); (case h0 => first | assumption | exact rfl))
    | ((with_reducible refine' z_ifF ?h0 ?_); (case h0 => first | assumption | exact rfl)))
local macro_rules
  | `(tactic| walk_at "z") => `(tactic| repeat walk_at "z1")
local macro_rules
  | `(tactic| walk_at "zi") => `(tactic| repeat first | walk_at "z1" | (with_reducible intro _ _))

def exB (K : PySem.W.Frag) (x : Str) : Bool := He.eqO (PySem.W.findIn K (.ref (He.ga K x)) "__getattribute__") (some (some (.builtin "BaseException.__getattribute__"))) && (He.eqO (PySem.W.findIn K (.ref (He.ga K x)) "__getattr__") (some none) && (decide (PySem.W.subIn K (.ref (He.ga K x)) (.type "BaseException") = some true) && (PySem.W.hasDictIn K (He.ga K x) && (He.eqO (PySem.W.findIn K (.ref (He.ga K x)) "__class__") (some (some (.builtin "object.__class__"))) &&
  (He.eqO (PySem.W.specialIn K (.builtin "object.__class__") "__get__") (some (some (.builtin "getset_descriptor.__get__"))) && (decide (PySem.W.takesIn K (.builtin "object.__class__") = some true) && (decide (PySem.W.mroIn K (He.ga K x) (.type "object") = some true) && decide (PySem.W.kitOne K (.ref (He.ga K x)) (.type "ValueError") = some true))))))))
def kitB2 (K : PySem.W.Frag) (x y : Str) (b : Bool) : Bool := decide (PySem.W.kitOne K (.ref (He.ga K x)) (.ref (He.ga K y)) = some b)
theorem exB_ok {K : PySem.W.Frag} {x : Str} (h : exB K x = true) : ExcC K (He.ga K x) := by
  obtain ⟨h1, h⟩ := He.ba h
  obtain ⟨h2, h⟩ := He.ba h
  obtain ⟨h3, h⟩ := He.ba h
  obtain ⟨h4, h⟩ := He.ba h
  obtain ⟨h5, h⟩ := He.ba h
  obtain ⟨h6, h⟩ := He.ba h
  obtain ⟨h7, h⟩ := He.ba h
  obtain ⟨h8, _⟩ := He.ba h
  exact ⟨He.eqO_ok h1, He.eqO_ok h2, of_decide_eq_true h3, h4, He.eqO_ok h5, He.eqO_ok h6, of_decide_eq_true h7, of_decide_eq_true h8⟩
theorem exB_ve {K : PySem.W.Frag} {x : Str} (h : exB K x = true) : PySem.W.kitOne K (.ref (He.ga K x)) (.type "ValueError") = some true := by
  obtain ⟨_, h⟩ := He.ba h
  obtain ⟨_, h⟩ := He.ba h
  obtain ⟨_, h⟩ := He.ba h
  obtain ⟨_, h⟩ := He.ba h
  obtain ⟨_, h⟩ := He.ba h
  obtain ⟨_, h⟩ := He.ba h
  obtain ⟨_, h⟩ := He.ba h
  obtain ⟨_, h⟩ := He.ba h
  exact of_decide_eq_true h
/-! a look at the heap that the top leaves: the module's names, what they are, the classes' own names, all code objects -/
def isFunc (o : Obj) : Bool := match o.data with
  | .func _ => true
  | _ => false
def codeRefs (g : Addr → Option Obj) (l : List Addr) : List Addr := l.flatMap fun a => match g a with
  | some ⟨_, _, .func fd, _⟩ => He.refV fd.code
  | _ => []
def nsRefs (g : Addr → Option Obj) (l : List Addr) : List Addr := l.flatMap fun a => match g a with
  | some ⟨_, _, .cls cd, _⟩ => [cd.ns]
  | _ => []
def dictRefs (g : Addr → Option Obj) (l : List Addr) : List Addr := l.flatMap fun a => match g a with
  | some ⟨_, _, .dict es _, _⟩ => es.toList.flatMap fun e => He.refV e.val
  | _ => []
def asY (g : Addr → Option Obj) : List Addr :=
  let gl := dictRefs g [mainGlobals]
  let ns := nsRefs g gl
  let ms := dictRefs g ns
  mainGlobals :: (gl ++ (ns ++ (ms ++ (codeRefs g gl ++ codeRefs g ms))))
abbrev AlY : Type := He.AlD × Bool
def obsY (fa : List He.Fa) (fn : List He.DefD) (ex : PySem.W.Frag → Bool) (g : Addr → Option Obj) : AlY := (He.obsD fa fn (He.frG g (asY g)), ex (He.frG g (asY g)))
def valY (fn : List He.DefD) : AlY := (He.valD fn, true)
structure SaysY (fa : List He.Fa) (fn : List He.DefD) (ex : PySem.W.Frag → Bool) (K : PySem.W.Frag) : Prop where
  d : He.SaysD fa fn K
  ex : ex K = true
def hookY (fa : List He.Fa) (fn : List He.DefD) (ex : PySem.W.Frag → Bool) : PySem.W.Hook where
  α := AlY
  obs := fun s => obsY fa fn ex s.heap.get?
  val := fun _ => valY fn
  says := fun _ h => ∃ K : PySem.W.Frag, K.In h ∧ SaysY fa fn ex K
  of := fun _ _ e => ⟨_, He.frG_in, congrArg (fun z : AlY => z.1) e, congrArg (fun z : AlY => z.2) e⟩
  keeps := fun _ _ _ ⟨K, hK, c⟩ k => ⟨K, PySem.W.Frag.In.keeps hK k, c⟩
theorem obsY_eq {fa : List He.Fa} {fn : List He.DefD} {ex : PySem.W.Frag → Bool} {g : Addr → Option Obj} {s : Shared} (h : ∀ a, g a = s.heap.get? a) : obsY fa fn ex g = (hookY fa fn ex).obs s := by
  have e : g = s.heap.get? := funext h
  rw [e] <;> rfl
theorem map_two {α β γ : Type} {x : Option α} {f : α → β} {g : α → γ} {a : β} {b : γ} (h1 : x.map f = some a) (h2 : x.map g = some b) : x.map (fun s => (f s, g s)) = some (a, b) := by
  cases x with
  | none => cases h1
  | some s => rw [Option.map_some] at h1 h2 ⊢; rw [Option.some.inj h1, Option.some.inj h2]
/-! the text by places -/
def top (i : Nat) : Stmt := PySem.Challenge.pw_linehand_k43_whole_searches.main.body.getD i (.Pass ⟨0, 0, 0, 0⟩)
abbrev s__wall : Stmt := top 0
abbrev s_is_sign : Stmt := top 10
abbrev s_look_text : Stmt := top 11
abbrev s_look_place : Stmt := top 12
abbrev s_is_letter : Stmt := top 13
abbrev s_word_end : Stmt := top 14
abbrev s_word_start : Stmt := top 15
abbrev s_recased : Stmt := top 16
abbrev s_Filler_init : Stmt := inClass (top 19) 0
abbrev s_Filler_start : Stmt := inClass (top 19) 1
abbrev s_Filler_fitting : Stmt := inClass (top 19) 2
abbrev s_Filler_common : Stmt := inClass (top 19) 3
abbrev s_History_init : Stmt := inClass (top 22) 0
abbrev s_History_add : Stmt := inClass (top 22) 1
abbrev s_History_all_lines : Stmt := inClass (top 22) 2
abbrev s_History_here : Stmt := inClass (top 22) 3
abbrev s_History_many : Stmt := inClass (top 22) 4
abbrev s_History_keep : Stmt := inClass (top 22) 5
abbrev s_History_go : Stmt := inClass (top 22) 6
abbrev s_History_find : Stmt := inClass (top 22) 7
abbrev s_Line_init : Stmt := inClass (top 25) 0
abbrev s_Line_text : Stmt := inClass (top 25) 1
abbrev s_Line_at : Stmt := inClass (top 25) 2
abbrev s_Line_marked : Stmt := inClass (top 25) 3
abbrev s_Line_go : Stmt := inClass (top 25) 4
abbrev s_Line_rest : Stmt := inClass (top 25) 5
abbrev s_Line_put_mark : Stmt := inClass (top 25) 6
abbrev s_Line_picture : Stmt := inClass (top 25) 7
abbrev s_Line_show : Stmt := inClass (top 25) 8
abbrev s_Line_change : Stmt := inClass (top 25) 9
abbrev s_Line_check : Stmt := inClass (top 25) 10
abbrev s_Line_replace : Stmt := inClass (top 25) 11
abbrev s_Line_write : Stmt := inClass (top 25) 12
abbrev s_Line_undo : Stmt := inClass (top 25) 13
abbrev s_Line_redo : Stmt := inClass (top 25) 14
abbrev s_Line_clear : Stmt := inClass (top 25) 15
abbrev s_Line_groups : Stmt := inClass (top 25) 16
abbrev s_Ring_init : Stmt := inClass (top 28) 0
abbrev s_Ring_push : Stmt := inClass (top 28) 1
abbrev s_Ring_join : Stmt := inClass (top 28) 2
abbrev s_Ring_meant : Stmt := inClass (top 28) 3
abbrev s_Ring_turn : Stmt := inClass (top 28) 4
abbrev s_Ring_newest : Stmt := inClass (top 28) 5
abbrev s_Ring_all_texts : Stmt := inClass (top 28) 6
abbrev s_Window_init : Stmt := inClass (top 32) 0
abbrev s_Window_view : Stmt := inClass (top 32) 1
abbrev s_is_key : Stmt := top 40
abbrev s_Search_init : Stmt := inClass (top 41) 0
abbrev s_Search_found : Stmt := inClass (top 41) 1
abbrev s_Search_is_lost : Stmt := inClass (top 41) 2
abbrev s_Search_here : Stmt := inClass (top 41) 3
abbrev s_Search_note : Stmt := inClass (top 41) 4
abbrev s_Hand_init : Stmt := inClass (top 42) 0
abbrev s_Hand_text : Stmt := inClass (top 42) 1
abbrev s_Hand_at : Stmt := inClass (top 42) 2
abbrev s_Hand_view : Stmt := inClass (top 42) 3
abbrev s_Hand_told : Stmt := inClass (top 42) 4
abbrev s_Hand_looked_for : Stmt := inClass (top 42) 5
abbrev s_Hand_press : Stmt := inClass (top 42) 6
abbrev s_Hand_stop : Stmt := inClass (top 42) 7
abbrev s_Hand_play : Stmt := inClass (top 42) 8
abbrev s_Hand_pressed : Stmt := inClass (top 42) 9
abbrev s_Hand_again : Stmt := inClass (top 42) 10
abbrev s_Hand_once : Stmt := inClass (top 42) 11
abbrev s_Hand_other : Stmt := inClass (top 42) 12
abbrev s_Hand_goal : Stmt := inClass (top 42) 13
abbrev s_Hand_between : Stmt := inClass (top 42) 14
abbrev s_Hand_cut : Stmt := inClass (top 42) 15
abbrev s_Hand_take : Stmt := inClass (top 42) 16
abbrev s_Hand_yank : Stmt := inClass (top 42) 17
abbrev s_Hand_recase : Stmt := inClass (top 42) 18
abbrev s_Hand_swap : Stmt := inClass (top 42) 19
abbrev s_Hand_undo : Stmt := inClass (top 42) 20
abbrev s_Hand_recall : Stmt := inClass (top 42) 21
abbrev s_Hand_load : Stmt := inClass (top 42) 22
abbrev s_Hand_enter : Stmt := inClass (top 42) 23
abbrev s_Hand_fill : Stmt := inClass (top 42) 24
abbrev s_Hand_next_choice : Stmt := inClass (top 42) 25
abbrev s_Hand_filled : Stmt := inClass (top 42) 26
abbrev s_Hand_searched : Stmt := inClass (top 42) 27
abbrev s_Hand_show_found : Stmt := inClass (top 42) 28
abbrev s__law_cell : Stmt := top 44
abbrev s__law_mix : Stmt := top 45
abbrev s__law_draw : Stmt := top 46
abbrev s__law_pick : Stmt := top 47
abbrev s__law_letter : Stmt := top 48
abbrev s__law_end : Stmt := top 49
abbrev s__law_start : Stmt := top 50
abbrev s__law_recased : Stmt := top 51
abbrev s__law_put : Stmt := top 52
abbrev s__law_set : Stmt := top 53
abbrev s__law_goal : Stmt := top 54
abbrev s__law_undo : Stmt := top 55
abbrev s__law_sign : Stmt := top 56
abbrev s__law_edit : Stmt := top 57
abbrev s__law_fresh : Stmt := top 58
abbrev s__law_load : Stmt := top 59
abbrev s__law_recall : Stmt := top 60
abbrev s__law_enter : Stmt := top 61
abbrev s__law_begun : Stmt := top 62
abbrev s__law_press : Stmt := top 63
abbrev s__law_find : Stmt := top 64
abbrev s__law_show : Stmt := top 65
abbrev s__law_searched : Stmt := top 66
abbrev s__law_key : Stmt := top 67
abbrev s_law : Stmt := top 68
def d__wall : He.DefD := ⟨("_wall", none), "_wall", "_wall", defArgs s__wall, defBody s__wall, defScope s__wall, [], []⟩
def d_is_sign : He.DefD := ⟨("is_sign", none), "is_sign", "is_sign", defArgs s_is_sign, defBody s_is_sign, defScope s_is_sign, [], []⟩
def d_look_text : He.DefD := ⟨("look_text", none), "look_text", "look_text", defArgs s_look_text, defBody s_look_text, defScope s_look_text, [], []⟩
def d_look_place : He.DefD := ⟨("look_place", none), "look_place", "look_place", defArgs s_look_place, defBody s_look_place, defScope s_look_place, [], []⟩
def d_is_letter : He.DefD := ⟨("is_letter", none), "is_letter", "is_letter", defArgs s_is_letter, defBody s_is_letter, defScope s_is_letter, [], []⟩
def d_word_end : He.DefD := ⟨("word_end", none), "word_end", "word_end", defArgs s_word_end, defBody s_word_end, defScope s_word_end, [], []⟩
def d_word_start : He.DefD := ⟨("word_start", none), "word_start", "word_start", defArgs s_word_start, defBody s_word_start, defScope s_word_start, [], []⟩
def d_recased : He.DefD := ⟨("recased", none), "recased", "recased", defArgs s_recased, defBody s_recased, defScope s_recased, [], []⟩
def d_Filler_init : He.DefD := ⟨("Filler", some "__init__"), "__init__", "Filler.__init__", defArgs s_Filler_init, defBody s_Filler_init, defScope s_Filler_init, [], []⟩
def d_Filler_start : He.DefD := ⟨("Filler", some "start"), "start", "Filler.start", defArgs s_Filler_start, defBody s_Filler_start, defScope s_Filler_start, [], []⟩
def d_Filler_fitting : He.DefD := ⟨("Filler", some "fitting"), "fitting", "Filler.fitting", defArgs s_Filler_fitting, defBody s_Filler_fitting, defScope s_Filler_fitting, [], []⟩
def d_Filler_common : He.DefD := ⟨("Filler", some "common"), "common", "Filler.common", defArgs s_Filler_common, defBody s_Filler_common, defScope s_Filler_common, [], []⟩
def d_History_init : He.DefD := ⟨("History", some "__init__"), "__init__", "History.__init__", defArgs s_History_init, defBody s_History_init, defScope s_History_init, [], []⟩
def d_History_add : He.DefD := ⟨("History", some "add"), "add", "History.add", defArgs s_History_add, defBody s_History_add, defScope s_History_add, [], []⟩
def d_History_all_lines : He.DefD := ⟨("History", some "all_lines"), "all_lines", "History.all_lines", defArgs s_History_all_lines, defBody s_History_all_lines, defScope s_History_all_lines, [], []⟩
def d_History_here : He.DefD := ⟨("History", some "here"), "here", "History.here", defArgs s_History_here, defBody s_History_here, defScope s_History_here, [], []⟩
def d_History_many : He.DefD := ⟨("History", some "many"), "many", "History.many", defArgs s_History_many, defBody s_History_many, defScope s_History_many, [], []⟩
def d_History_keep : He.DefD := ⟨("History", some "keep"), "keep", "History.keep", defArgs s_History_keep, defBody s_History_keep, defScope s_History_keep, [], []⟩
def d_History_go : He.DefD := ⟨("History", some "go"), "go", "History.go", defArgs s_History_go, defBody s_History_go, defScope s_History_go, [], []⟩
def d_History_find : He.DefD := ⟨("History", some "find"), "find", "History.find", defArgs s_History_find, defBody s_History_find, defScope s_History_find, [], []⟩
def d_Line_init : He.DefD := ⟨("Line", some "__init__"), "__init__", "Line.__init__", defArgs s_Line_init, defBody s_Line_init, defScope s_Line_init, [], []⟩
def d_Line_text : He.DefD := ⟨("Line", some "text"), "text", "Line.text", defArgs s_Line_text, defBody s_Line_text, defScope s_Line_text, [], []⟩
def d_Line_at : He.DefD := ⟨("Line", some "at"), "at", "Line.at", defArgs s_Line_at, defBody s_Line_at, defScope s_Line_at, [], []⟩
def d_Line_marked : He.DefD := ⟨("Line", some "marked"), "marked", "Line.marked", defArgs s_Line_marked, defBody s_Line_marked, defScope s_Line_marked, [], []⟩
def d_Line_go : He.DefD := ⟨("Line", some "go"), "go", "Line.go", defArgs s_Line_go, defBody s_Line_go, defScope s_Line_go, [], []⟩
def d_Line_rest : He.DefD := ⟨("Line", some "rest"), "rest", "Line.rest", defArgs s_Line_rest, defBody s_Line_rest, defScope s_Line_rest, [], []⟩
def d_Line_put_mark : He.DefD := ⟨("Line", some "put_mark"), "put_mark", "Line.put_mark", defArgs s_Line_put_mark, defBody s_Line_put_mark, defScope s_Line_put_mark, [], []⟩
def d_Line_picture : He.DefD := ⟨("Line", some "picture"), "picture", "Line.picture", defArgs s_Line_picture, defBody s_Line_picture, defScope s_Line_picture, [], []⟩
def d_Line_show : He.DefD := ⟨("Line", some "show"), "show", "Line.show", defArgs s_Line_show, defBody s_Line_show, defScope s_Line_show, [], []⟩
def d_Line_change : He.DefD := ⟨("Line", some "change"), "change", "Line.change", defArgs s_Line_change, defBody s_Line_change, defScope s_Line_change, [], []⟩
def d_Line_check : He.DefD := ⟨("Line", some "check"), "check", "Line.check", defArgs s_Line_check, defBody s_Line_check, defScope s_Line_check, [], []⟩
def d_Line_replace : He.DefD := ⟨("Line", some "replace"), "replace", "Line.replace", defArgs s_Line_replace, defBody s_Line_replace, defScope s_Line_replace, [], []⟩
def d_Line_write : He.DefD := ⟨("Line", some "write"), "write", "Line.write", defArgs s_Line_write, defBody s_Line_write, defScope s_Line_write, [], []⟩
def d_Line_undo : He.DefD := ⟨("Line", some "undo"), "undo", "Line.undo", defArgs s_Line_undo, defBody s_Line_undo, defScope s_Line_undo, [], []⟩
def d_Line_redo : He.DefD := ⟨("Line", some "redo"), "redo", "Line.redo", defArgs s_Line_redo, defBody s_Line_redo, defScope s_Line_redo, [], []⟩
def d_Line_clear : He.DefD := ⟨("Line", some "clear"), "clear", "Line.clear", defArgs s_Line_clear, defBody s_Line_clear, defScope s_Line_clear, [], []⟩
def d_Line_groups : He.DefD := ⟨("Line", some "groups"), "groups", "Line.groups", defArgs s_Line_groups, defBody s_Line_groups, defScope s_Line_groups, [], []⟩
def d_Ring_init : He.DefD := ⟨("Ring", some "__init__"), "__init__", "Ring.__init__", defArgs s_Ring_init, defBody s_Ring_init, defScope s_Ring_init, [], []⟩
def d_Ring_push : He.DefD := ⟨("Ring", some "push"), "push", "Ring.push", defArgs s_Ring_push, defBody s_Ring_push, defScope s_Ring_push, [], []⟩
def d_Ring_join : He.DefD := ⟨("Ring", some "join"), "join", "Ring.join", defArgs s_Ring_join, defBody s_Ring_join, defScope s_Ring_join, [], []⟩
def d_Ring_meant : He.DefD := ⟨("Ring", some "meant"), "meant", "Ring.meant", defArgs s_Ring_meant, defBody s_Ring_meant, defScope s_Ring_meant, [], []⟩
def d_Ring_turn : He.DefD := ⟨("Ring", some "turn"), "turn", "Ring.turn", defArgs s_Ring_turn, defBody s_Ring_turn, defScope s_Ring_turn, [], []⟩
def d_Ring_newest : He.DefD := ⟨("Ring", some "newest"), "newest", "Ring.newest", defArgs s_Ring_newest, defBody s_Ring_newest, defScope s_Ring_newest, [], []⟩
def d_Ring_all_texts : He.DefD := ⟨("Ring", some "all_texts"), "all_texts", "Ring.all_texts", defArgs s_Ring_all_texts, defBody s_Ring_all_texts, defScope s_Ring_all_texts, [], []⟩
def d_Window_init : He.DefD := ⟨("Window", some "__init__"), "__init__", "Window.__init__", defArgs s_Window_init, defBody s_Window_init, defScope s_Window_init, [], []⟩
def d_Window_view : He.DefD := ⟨("Window", some "view"), "view", "Window.view", defArgs s_Window_view, defBody s_Window_view, defScope s_Window_view, [], []⟩
def d_is_key : He.DefD := ⟨("is_key", none), "is_key", "is_key", defArgs s_is_key, defBody s_is_key, defScope s_is_key, [], []⟩
def d_Search_init : He.DefD := ⟨("Search", some "__init__"), "__init__", "Search.__init__", defArgs s_Search_init, defBody s_Search_init, defScope s_Search_init, [], []⟩
def d_Search_found : He.DefD := ⟨("Search", some "found"), "found", "Search.found", defArgs s_Search_found, defBody s_Search_found, defScope s_Search_found, [], []⟩
def d_Search_is_lost : He.DefD := ⟨("Search", some "is_lost"), "is_lost", "Search.is_lost", defArgs s_Search_is_lost, defBody s_Search_is_lost, defScope s_Search_is_lost, [], []⟩
def d_Search_here : He.DefD := ⟨("Search", some "here"), "here", "Search.here", defArgs s_Search_here, defBody s_Search_here, defScope s_Search_here, [], []⟩
def d_Search_note : He.DefD := ⟨("Search", some "note"), "note", "Search.note", defArgs s_Search_note, defBody s_Search_note, defScope s_Search_note, [], []⟩
def d_Hand_init : He.DefD := ⟨("Hand", some "__init__"), "__init__", "Hand.__init__", defArgs s_Hand_init, defBody s_Hand_init, defScope s_Hand_init, [], []⟩
def d_Hand_text : He.DefD := ⟨("Hand", some "text"), "text", "Hand.text", defArgs s_Hand_text, defBody s_Hand_text, defScope s_Hand_text, [], []⟩
def d_Hand_at : He.DefD := ⟨("Hand", some "at"), "at", "Hand.at", defArgs s_Hand_at, defBody s_Hand_at, defScope s_Hand_at, [], []⟩
def d_Hand_view : He.DefD := ⟨("Hand", some "view"), "view", "Hand.view", defArgs s_Hand_view, defBody s_Hand_view, defScope s_Hand_view, [], []⟩
def d_Hand_told : He.DefD := ⟨("Hand", some "told"), "told", "Hand.told", defArgs s_Hand_told, defBody s_Hand_told, defScope s_Hand_told, [], []⟩
def d_Hand_looked_for : He.DefD := ⟨("Hand", some "looked_for"), "looked_for", "Hand.looked_for", defArgs s_Hand_looked_for, defBody s_Hand_looked_for, defScope s_Hand_looked_for, [], []⟩
def d_Hand_press : He.DefD := ⟨("Hand", some "press"), "press", "Hand.press", defArgs s_Hand_press, defBody s_Hand_press, defScope s_Hand_press, [], []⟩
def d_Hand_stop : He.DefD := ⟨("Hand", some "stop"), "stop", "Hand.stop", defArgs s_Hand_stop, defBody s_Hand_stop, defScope s_Hand_stop, [], []⟩
def d_Hand_play : He.DefD := ⟨("Hand", some "play"), "play", "Hand.play", defArgs s_Hand_play, defBody s_Hand_play, defScope s_Hand_play, [], []⟩
def d_Hand_pressed : He.DefD := ⟨("Hand", some "pressed"), "pressed", "Hand.pressed", defArgs s_Hand_pressed, defBody s_Hand_pressed, defScope s_Hand_pressed, [], []⟩
def d_Hand_again : He.DefD := ⟨("Hand", some "again"), "again", "Hand.again", defArgs s_Hand_again, defBody s_Hand_again, defScope s_Hand_again, [], []⟩
def d_Hand_once : He.DefD := ⟨("Hand", some "once"), "once", "Hand.once", defArgs s_Hand_once, defBody s_Hand_once, defScope s_Hand_once, [], []⟩
def d_Hand_other : He.DefD := ⟨("Hand", some "other"), "other", "Hand.other", defArgs s_Hand_other, defBody s_Hand_other, defScope s_Hand_other, [], []⟩
def d_Hand_goal : He.DefD := ⟨("Hand", some "goal"), "goal", "Hand.goal", defArgs s_Hand_goal, defBody s_Hand_goal, defScope s_Hand_goal, [], []⟩
def d_Hand_between : He.DefD := ⟨("Hand", some "between"), "between", "Hand.between", defArgs s_Hand_between, defBody s_Hand_between, defScope s_Hand_between, [], []⟩
def d_Hand_cut : He.DefD := ⟨("Hand", some "cut"), "cut", "Hand.cut", defArgs s_Hand_cut, defBody s_Hand_cut, defScope s_Hand_cut, [], []⟩
def d_Hand_take : He.DefD := ⟨("Hand", some "take"), "take", "Hand.take", defArgs s_Hand_take, defBody s_Hand_take, defScope s_Hand_take, [], []⟩
def d_Hand_yank : He.DefD := ⟨("Hand", some "yank"), "yank", "Hand.yank", defArgs s_Hand_yank, defBody s_Hand_yank, defScope s_Hand_yank, [], []⟩
def d_Hand_recase : He.DefD := ⟨("Hand", some "recase"), "recase", "Hand.recase", defArgs s_Hand_recase, defBody s_Hand_recase, defScope s_Hand_recase, [], []⟩
def d_Hand_swap : He.DefD := ⟨("Hand", some "swap"), "swap", "Hand.swap", defArgs s_Hand_swap, defBody s_Hand_swap, defScope s_Hand_swap, [], []⟩
def d_Hand_undo : He.DefD := ⟨("Hand", some "undo"), "undo", "Hand.undo", defArgs s_Hand_undo, defBody s_Hand_undo, defScope s_Hand_undo, [], []⟩
def d_Hand_recall : He.DefD := ⟨("Hand", some "recall"), "recall", "Hand.recall", defArgs s_Hand_recall, defBody s_Hand_recall, defScope s_Hand_recall, [], []⟩
def d_Hand_load : He.DefD := ⟨("Hand", some "load"), "load", "Hand.load", defArgs s_Hand_load, defBody s_Hand_load, defScope s_Hand_load, [], []⟩
def d_Hand_enter : He.DefD := ⟨("Hand", some "enter"), "enter", "Hand.enter", defArgs s_Hand_enter, defBody s_Hand_enter, defScope s_Hand_enter, [], []⟩
def d_Hand_fill : He.DefD := ⟨("Hand", some "fill"), "fill", "Hand.fill", defArgs s_Hand_fill, defBody s_Hand_fill, defScope s_Hand_fill, [], []⟩
def d_Hand_next_choice : He.DefD := ⟨("Hand", some "next_choice"), "next_choice", "Hand.next_choice", defArgs s_Hand_next_choice, defBody s_Hand_next_choice, defScope s_Hand_next_choice, [], []⟩
def d_Hand_filled : He.DefD := ⟨("Hand", some "filled"), "filled", "Hand.filled", defArgs s_Hand_filled, defBody s_Hand_filled, defScope s_Hand_filled, [], []⟩
def d_Hand_searched : He.DefD := ⟨("Hand", some "searched"), "searched", "Hand.searched", defArgs s_Hand_searched, defBody s_Hand_searched, defScope s_Hand_searched, [], []⟩
def d_Hand_show_found : He.DefD := ⟨("Hand", some "show_found"), "show_found", "Hand.show_found", defArgs s_Hand_show_found, defBody s_Hand_show_found, defScope s_Hand_show_found, [], []⟩
def d__law_cell : He.DefD := ⟨("_law_cell", none), "_law_cell", "_law_cell", defArgs s__law_cell, defBody s__law_cell, defScope s__law_cell, [], []⟩
def d__law_mix : He.DefD := ⟨("_law_mix", none), "_law_mix", "_law_mix", defArgs s__law_mix, defBody s__law_mix, defScope s__law_mix, [], []⟩
def d__law_draw : He.DefD := ⟨("_law_draw", none), "_law_draw", "_law_draw", defArgs s__law_draw, defBody s__law_draw, defScope s__law_draw, [], []⟩
def d__law_pick : He.DefD := ⟨("_law_pick", none), "_law_pick", "_law_pick", defArgs s__law_pick, defBody s__law_pick, defScope s__law_pick, [], []⟩
def d__law_letter : He.DefD := ⟨("_law_letter", none), "_law_letter", "_law_letter", defArgs s__law_letter, defBody s__law_letter, defScope s__law_letter, [], []⟩
def d__law_end : He.DefD := ⟨("_law_end", none), "_law_end", "_law_end", defArgs s__law_end, defBody s__law_end, defScope s__law_end, [], []⟩
def d__law_start : He.DefD := ⟨("_law_start", none), "_law_start", "_law_start", defArgs s__law_start, defBody s__law_start, defScope s__law_start, [], []⟩
def d__law_recased : He.DefD := ⟨("_law_recased", none), "_law_recased", "_law_recased", defArgs s__law_recased, defBody s__law_recased, defScope s__law_recased, [], []⟩
def d__law_put : He.DefD := ⟨("_law_put", none), "_law_put", "_law_put", defArgs s__law_put, defBody s__law_put, defScope s__law_put, [], []⟩
def d__law_set : He.DefD := ⟨("_law_set", none), "_law_set", "_law_set", defArgs s__law_set, defBody s__law_set, defScope s__law_set, [], []⟩
def d__law_goal : He.DefD := ⟨("_law_goal", none), "_law_goal", "_law_goal", defArgs s__law_goal, defBody s__law_goal, defScope s__law_goal, [], []⟩
def d__law_undo : He.DefD := ⟨("_law_undo", none), "_law_undo", "_law_undo", defArgs s__law_undo, defBody s__law_undo, defScope s__law_undo, [], []⟩
def d__law_sign : He.DefD := ⟨("_law_sign", none), "_law_sign", "_law_sign", defArgs s__law_sign, defBody s__law_sign, defScope s__law_sign, [], []⟩
def d__law_edit : He.DefD := ⟨("_law_edit", none), "_law_edit", "_law_edit", defArgs s__law_edit, defBody s__law_edit, defScope s__law_edit, [], []⟩
def d__law_fresh : He.DefD := ⟨("_law_fresh", none), "_law_fresh", "_law_fresh", defArgs s__law_fresh, defBody s__law_fresh, defScope s__law_fresh, [], []⟩
def d__law_load : He.DefD := ⟨("_law_load", none), "_law_load", "_law_load", defArgs s__law_load, defBody s__law_load, defScope s__law_load, [], []⟩
def d__law_recall : He.DefD := ⟨("_law_recall", none), "_law_recall", "_law_recall", defArgs s__law_recall, defBody s__law_recall, defScope s__law_recall, [], []⟩
def d__law_enter : He.DefD := ⟨("_law_enter", none), "_law_enter", "_law_enter", defArgs s__law_enter, defBody s__law_enter, defScope s__law_enter, [], []⟩
def d__law_begun : He.DefD := ⟨("_law_begun", none), "_law_begun", "_law_begun", defArgs s__law_begun, defBody s__law_begun, defScope s__law_begun, [], []⟩
def d__law_press : He.DefD := ⟨("_law_press", none), "_law_press", "_law_press", defArgs s__law_press, defBody s__law_press, defScope s__law_press, [], []⟩
def d__law_find : He.DefD := ⟨("_law_find", none), "_law_find", "_law_find", defArgs s__law_find, defBody s__law_find, defScope s__law_find, [], []⟩
def d__law_show : He.DefD := ⟨("_law_show", none), "_law_show", "_law_show", defArgs s__law_show, defBody s__law_show, defScope s__law_show, [], []⟩
def d__law_searched : He.DefD := ⟨("_law_searched", none), "_law_searched", "_law_searched", defArgs s__law_searched, defBody s__law_searched, defScope s__law_searched, [], []⟩
def d__law_key : He.DefD := ⟨("_law_key", none), "_law_key", "_law_key", defArgs s__law_key, defBody s__law_key, defScope s__law_key, [], []⟩
def d_law : He.DefD := ⟨("law", none), "law", "law", defArgs s_law, defBody s_law, defScope s_law, [], []⟩
def fn : List He.DefD := [d__wall, d_is_sign, d_look_text, d_look_place, d_is_letter, d_word_end, d_word_start, d_recased, d_Filler_init, d_Filler_start, d_Filler_fitting, d_Filler_common, d_History_init, d_History_add, d_History_all_lines, d_History_here, d_History_many, d_History_keep, d_History_go, d_History_find, d_Line_init, d_Line_text, d_Line_at, d_Line_marked, d_Line_go, d_Line_rest, d_Line_put_mark, d_Line_picture, d_Line_show, d_Line_change, d_Line_check, d_Line_replace, d_Line_write, d_Line_undo, d_Line_redo, d_Line_clear, d_Line_groups, d_Ring_init, d_Ring_push, d_Ring_join, d_Ring_meant, d_Ring_turn, d_Ring_newest, d_Ring_all_texts, d_Window_init, d_Window_view, d_is_key, d_Search_init, d_Search_found, d_Search_is_lost, d_Search_here, d_Search_note, d_Hand_init, d_Hand_text, d_Hand_at, d_Hand_view, d_Hand_told, d_Hand_looked_for, d_Hand_press, d_Hand_stop, d_Hand_play, d_Hand_pressed, d_Hand_again, d_Hand_once, d_Hand_other, d_Hand_goal, d_Hand_between, d_Hand_cut, d_Hand_take, d_Hand_yank, d_Hand_recase, d_Hand_swap, d_Hand_undo, d_Hand_recall, d_Hand_load, d_Hand_enter, d_Hand_fill, d_Hand_next_choice, d_Hand_filled, d_Hand_searched, d_Hand_show_found, d__law_cell, d__law_mix, d__law_draw, d__law_pick, d__law_letter, d__law_end, d__law_start, d__law_recased, d__law_put, d__law_set, d__law_goal, d__law_undo, d__law_sign, d__law_edit, d__law_fresh, d__law_load, d__law_recall, d__law_enter, d__law_begun, d__law_press, d__law_find, d__law_show, d__law_searched, d__law_key, d_law]
def fa0 : List He.Fa := [.glo "_wall", .glo "is_sign", .glo "look_text", .glo "look_place", .glo "is_letter", .glo "word_end", .glo "word_start", .glo "recased", .glo "is_key", .glo "_law_cell", .glo "_law_mix", .glo "_law_draw", .glo "_law_pick", .glo "_law_letter", .glo "_law_end", .glo "_law_start", .glo "_law_recased", .glo "_law_put", .glo "_law_set", .glo "_law_goal", .glo "_law_undo", .glo "_law_sign", .glo "_law_edit", .glo "_law_fresh", .glo "_law_load", .glo "_law_recall", .glo "_law_enter", .glo "_law_begun", .glo "_law_press", .glo "_law_find"]
def fa1 : List He.Fa := [.glo "_law_show", .glo "_law_searched", .glo "_law_key", .glo "law", .glo "HandError", .exc "HandError", .exm "HandError" "HandError" true, .glo "BadKey", .exc "BadKey", .exm "BadKey" "HandError" true, .glo "BadText", .exc "BadText", .exm "BadText" "HandError" true, .glo "BadSize", .exc "BadSize", .exm "BadSize" "HandError" true, .glo "BadPlace", .exc "BadPlace", .exm "BadPlace" "HandError" true, .glo "Filler", .cls "Filler", .mkr "Filler", .noat "Filler" "words", .meth "Filler" "start", .meth "Filler" "fitting", .meth "Filler" "common", .glo "History", .cls "History", .mkr "History", .noat "History" "most"]
def fa2 : List He.Fa := [.noat "History" "kept", .noat "History" "shown", .noat "History" "spot", .meth "History" "add", .meth "History" "all_lines", .meth "History" "here", .meth "History" "many", .meth "History" "keep", .meth "History" "go", .meth "History" "find", .glo "Line", .cls "Line", .mkr "Line", .noat "Line" "now", .noat "Line" "caret", .noat "Line" "mark", .noat "Line" "before", .noat "Line" "later", .noat "Line" "run", .meth "Line" "text", .meth "Line" "at", .meth "Line" "marked", .meth "Line" "go", .meth "Line" "rest", .meth "Line" "put_mark", .meth "Line" "picture", .meth "Line" "show", .meth "Line" "change", .meth "Line" "check", .meth "Line" "replace"]
def fa3 : List He.Fa := [.meth "Line" "write", .meth "Line" "undo", .meth "Line" "redo", .meth "Line" "clear", .meth "Line" "groups", .glo "Ring", .cls "Ring", .mkr "Ring", .noat "Ring" "most", .noat "Ring" "texts", .noat "Ring" "spot", .meth "Ring" "push", .meth "Ring" "join", .meth "Ring" "meant", .meth "Ring" "turn", .meth "Ring" "newest", .meth "Ring" "all_texts", .glo "Window", .cls "Window", .mkr "Window", .noat "Window" "width", .noat "Window" "first", .meth "Window" "view", .glo "Search", .cls "Search", .mkr "Search", .noat "Search" "was", .noat "Search" "spot", .noat "Search" "part", .noat "Search" "trail"]
def fa4 : List He.Fa := [.meth "Search" "found", .meth "Search" "is_lost", .meth "Search" "here", .meth "Search" "note", .glo "Hand", .cls "Hand", .mkr "Hand", .noat "Hand" "line", .noat "Hand" "ring", .noat "Hand" "history", .noat "Hand" "filler", .noat "Hand" "window", .noat "Hand" "entered", .noat "Hand" "last_cut", .noat "Hand" "times", .noat "Hand" "yanked", .noat "Hand" "search", .noat "Hand" "choice", .noat "Hand" "keys_kept", .noat "Hand" "macro", .meth "Hand" "text", .meth "Hand" "at", .meth "Hand" "view", .meth "Hand" "told", .meth "Hand" "looked_for", .meth "Hand" "press", .meth "Hand" "stop", .meth "Hand" "play", .meth "Hand" "pressed", .meth "Hand" "again"]
def fa5 : List He.Fa := [.meth "Hand" "once", .meth "Hand" "other", .meth "Hand" "goal", .meth "Hand" "between", .meth "Hand" "cut", .meth "Hand" "take", .meth "Hand" "yank", .meth "Hand" "recase", .meth "Hand" "swap", .meth "Hand" "undo", .meth "Hand" "recall", .meth "Hand" "load", .meth "Hand" "enter", .meth "Hand" "fill", .meth "Hand" "next_choice", .meth "Hand" "filled", .meth "Hand" "searched", .meth "Hand" "show_found", .str "LETTERS" "abcdefghijklmnopqrstuvwxyzABCDEFGHIJKLMNOPQRSTUVWXYZ0123456789", .int "MOST_TEXT" 400, .int "MOST_WORDS" 200, .int "MOST_LINES" 200, .int "MOST_RUN" 20, .int "MOST_RING" 20, .int "LEAST" 4, .int "MOST" 400, .glo "MOVES", .glo "CUTS", .glo "OTHERS", .str "FIGURES" "0123456789"]
def fa6 : List He.Fa := [.int "MOST_TIMES" 99, .int "MOST_KEYS" 100, .free "ValueError", .free "all", .free "int", .free "len", .free "list", .free "max", .free "min", .free "ord", .free "range", .free "set", .free "sorted"]
def fa : List He.Fa := fa0 ++ fa1 ++ fa2 ++ fa3 ++ fa4 ++ fa5 ++ fa6
def ex (K : PySem.W.Frag) : Bool := (He.tupB K "MOVES" [.str "left", .str "right", .str "home", .str "end", .str "wordleft", .str "wordright"]) && (He.tupB K "CUTS" [.str "rubword", .str "delword", .str "cutend", .str "cutstart", .str "cutmark"]) && (He.tupB K "OTHERS" [.str "rub", .str "del", .str "yank", .str "pop", .str "swap", .str "great", .str "small", .str "cap", .str "mark", .str "swapmark", .str "copymark", .str "undo", .str "redo", .str "up", .str "down", .str "search", .str "fill", .str "enter", .str "cancel", .str "record", .str "stop", .str "play"])
structure Tx (K : PySem.W.Frag) (mg : Str → Option Value) : Prop where
  c : SaysY fa fn ex K
  g : ∃ h : Heap, K.In h ∧ h.Ns mainGlobals mg
section
variable {K : PySem.W.Frag} {mg : Str → Option Value}
theorem Tx.g__wall (T : Tx K mg) : mg "_wall" = some (.ref (He.ga K "_wall")) := let ⟨_, X, G⟩ := T.g; He.glo_ok X G (T.c.d.fact 0 rfl)
theorem Tx.g_is_sign (T : Tx K mg) : mg "is_sign" = some (.ref (He.ga K "is_sign")) := let ⟨_, X, G⟩ := T.g; He.glo_ok X G (T.c.d.fact 1 rfl)
theorem Tx.g_look_text (T : Tx K mg) : mg "look_text" = some (.ref (He.ga K "look_text")) := let ⟨_, X, G⟩ := T.g; He.glo_ok X G (T.c.d.fact 2 rfl)
theorem Tx.g_look_place (T : Tx K mg) : mg "look_place" = some (.ref (He.ga K "look_place")) := let ⟨_, X, G⟩ := T.g; He.glo_ok X G (T.c.d.fact 3 rfl)
theorem Tx.g_is_letter (T : Tx K mg) : mg "is_letter" = some (.ref (He.ga K "is_letter")) := let ⟨_, X, G⟩ := T.g; He.glo_ok X G (T.c.d.fact 4 rfl)
theorem Tx.g_word_end (T : Tx K mg) : mg "word_end" = some (.ref (He.ga K "word_end")) := let ⟨_, X, G⟩ := T.g; He.glo_ok X G (T.c.d.fact 5 rfl)
theorem Tx.g_word_start (T : Tx K mg) : mg "word_start" = some (.ref (He.ga K "word_start")) := let ⟨_, X, G⟩ := T.g; He.glo_ok X G (T.c.d.fact 6 rfl)
theorem Tx.g_recased (T : Tx K mg) : mg "recased" = some (.ref (He.ga K "recased")) := let ⟨_, X, G⟩ := T.g; He.glo_ok X G (T.c.d.fact 7 rfl)
theorem Tx.g_is_key (T : Tx K mg) : mg "is_key" = some (.ref (He.ga K "is_key")) := let ⟨_, X, G⟩ := T.g; He.glo_ok X G (T.c.d.fact 8 rfl)
theorem Tx.g__law_cell (T : Tx K mg) : mg "_law_cell" = some (.ref (He.ga K "_law_cell")) := let ⟨_, X, G⟩ := T.g; He.glo_ok X G (T.c.d.fact 9 rfl)
theorem Tx.g__law_mix (T : Tx K mg) : mg "_law_mix" = some (.ref (He.ga K "_law_mix")) := let ⟨_, X, G⟩ := T.g; He.glo_ok X G (T.c.d.fact 10 rfl)
theorem Tx.g__law_draw (T : Tx K mg) : mg "_law_draw" = some (.ref (He.ga K "_law_draw")) := let ⟨_, X, G⟩ := T.g; He.glo_ok X G (T.c.d.fact 11 rfl)
theorem Tx.g__law_pick (T : Tx K mg) : mg "_law_pick" = some (.ref (He.ga K "_law_pick")) := let ⟨_, X, G⟩ := T.g; He.glo_ok X G (T.c.d.fact 12 rfl)
theorem Tx.g__law_letter (T : Tx K mg) : mg "_law_letter" = some (.ref (He.ga K "_law_letter")) := let ⟨_, X, G⟩ := T.g; He.glo_ok X G (T.c.d.fact 13 rfl)
theorem Tx.g__law_end (T : Tx K mg) : mg "_law_end" = some (.ref (He.ga K "_law_end")) := let ⟨_, X, G⟩ := T.g; He.glo_ok X G (T.c.d.fact 14 rfl)
theorem Tx.g__law_start (T : Tx K mg) : mg "_law_start" = some (.ref (He.ga K "_law_start")) := let ⟨_, X, G⟩ := T.g; He.glo_ok X G (T.c.d.fact 15 rfl)
theorem Tx.g__law_recased (T : Tx K mg) : mg "_law_recased" = some (.ref (He.ga K "_law_recased")) := let ⟨_, X, G⟩ := T.g; He.glo_ok X G (T.c.d.fact 16 rfl)
theorem Tx.g__law_put (T : Tx K mg) : mg "_law_put" = some (.ref (He.ga K "_law_put")) := let ⟨_, X, G⟩ := T.g; He.glo_ok X G (T.c.d.fact 17 rfl)
theorem Tx.g__law_set (T : Tx K mg) : mg "_law_set" = some (.ref (He.ga K "_law_set")) := let ⟨_, X, G⟩ := T.g; He.glo_ok X G (T.c.d.fact 18 rfl)
theorem Tx.g__law_goal (T : Tx K mg) : mg "_law_goal" = some (.ref (He.ga K "_law_goal")) := let ⟨_, X, G⟩ := T.g; He.glo_ok X G (T.c.d.fact 19 rfl)
theorem Tx.g__law_undo (T : Tx K mg) : mg "_law_undo" = some (.ref (He.ga K "_law_undo")) := let ⟨_, X, G⟩ := T.g; He.glo_ok X G (T.c.d.fact 20 rfl)
theorem Tx.g__law_sign (T : Tx K mg) : mg "_law_sign" = some (.ref (He.ga K "_law_sign")) := let ⟨_, X, G⟩ := T.g; He.glo_ok X G (T.c.d.fact 21 rfl)
theorem Tx.g__law_edit (T : Tx K mg) : mg "_law_edit" = some (.ref (He.ga K "_law_edit")) := let ⟨_, X, G⟩ := T.g; He.glo_ok X G (T.c.d.fact 22 rfl)
theorem Tx.g__law_fresh (T : Tx K mg) : mg "_law_fresh" = some (.ref (He.ga K "_law_fresh")) := let ⟨_, X, G⟩ := T.g; He.glo_ok X G (T.c.d.fact 23 rfl)
theorem Tx.g__law_load (T : Tx K mg) : mg "_law_load" = some (.ref (He.ga K "_law_load")) := let ⟨_, X, G⟩ := T.g; He.glo_ok X G (T.c.d.fact 24 rfl)
theorem Tx.g__law_recall (T : Tx K mg) : mg "_law_recall" = some (.ref (He.ga K "_law_recall")) := let ⟨_, X, G⟩ := T.g; He.glo_ok X G (T.c.d.fact 25 rfl)
theorem Tx.g__law_enter (T : Tx K mg) : mg "_law_enter" = some (.ref (He.ga K "_law_enter")) := let ⟨_, X, G⟩ := T.g; He.glo_ok X G (T.c.d.fact 26 rfl)
theorem Tx.g__law_begun (T : Tx K mg) : mg "_law_begun" = some (.ref (He.ga K "_law_begun")) := let ⟨_, X, G⟩ := T.g; He.glo_ok X G (T.c.d.fact 27 rfl)
theorem Tx.g__law_press (T : Tx K mg) : mg "_law_press" = some (.ref (He.ga K "_law_press")) := let ⟨_, X, G⟩ := T.g; He.glo_ok X G (T.c.d.fact 28 rfl)
theorem Tx.g__law_find (T : Tx K mg) : mg "_law_find" = some (.ref (He.ga K "_law_find")) := let ⟨_, X, G⟩ := T.g; He.glo_ok X G (T.c.d.fact 29 rfl)
theorem Tx.g__law_show (T : Tx K mg) : mg "_law_show" = some (.ref (He.ga K "_law_show")) := let ⟨_, X, G⟩ := T.g; He.glo_ok X G (T.c.d.fact 30 rfl)
theorem Tx.g__law_searched (T : Tx K mg) : mg "_law_searched" = some (.ref (He.ga K "_law_searched")) := let ⟨_, X, G⟩ := T.g; He.glo_ok X G (T.c.d.fact 31 rfl)
theorem Tx.g__law_key (T : Tx K mg) : mg "_law_key" = some (.ref (He.ga K "_law_key")) := let ⟨_, X, G⟩ := T.g; He.glo_ok X G (T.c.d.fact 32 rfl)
theorem Tx.g_law (T : Tx K mg) : mg "law" = some (.ref (He.ga K "law")) := let ⟨_, X, G⟩ := T.g; He.glo_ok X G (T.c.d.fact 33 rfl)
theorem Tx.g_HandError (T : Tx K mg) : mg "HandError" = some (.ref (He.ga K "HandError")) := let ⟨_, X, G⟩ := T.g; He.glo_ok X G (T.c.d.fact 34 rfl)
theorem Tx.x_HandError (T : Tx K mg) : Xc K (He.ga K "HandError") := He.exc_ok (K := K) (x := "HandError") (T.c.d.fact 35 rfl)
theorem Tx.eo_HandError (T : Tx K mg) : PySem.W.exmOne K (.ref (He.ga K "HandError")) (.ref (He.ga K "HandError")) = some true := He.exm_ok (T.c.d.fact 36 rfl)
theorem Tx.g_BadKey (T : Tx K mg) : mg "BadKey" = some (.ref (He.ga K "BadKey")) := let ⟨_, X, G⟩ := T.g; He.glo_ok X G (T.c.d.fact 37 rfl)
theorem Tx.x_BadKey (T : Tx K mg) : Xc K (He.ga K "BadKey") := He.exc_ok (K := K) (x := "BadKey") (T.c.d.fact 38 rfl)
theorem Tx.e_BadKey (T : Tx K mg) : PySem.W.exmOne K (.ref (He.ga K "BadKey")) (.ref (He.ga K "HandError")) = some true := He.exm_ok (T.c.d.fact 39 rfl)
theorem Tx.g_BadText (T : Tx K mg) : mg "BadText" = some (.ref (He.ga K "BadText")) := let ⟨_, X, G⟩ := T.g; He.glo_ok X G (T.c.d.fact 40 rfl)
theorem Tx.x_BadText (T : Tx K mg) : Xc K (He.ga K "BadText") := He.exc_ok (K := K) (x := "BadText") (T.c.d.fact 41 rfl)
theorem Tx.e_BadText (T : Tx K mg) : PySem.W.exmOne K (.ref (He.ga K "BadText")) (.ref (He.ga K "HandError")) = some true := He.exm_ok (T.c.d.fact 42 rfl)
theorem Tx.g_BadSize (T : Tx K mg) : mg "BadSize" = some (.ref (He.ga K "BadSize")) := let ⟨_, X, G⟩ := T.g; He.glo_ok X G (T.c.d.fact 43 rfl)
theorem Tx.x_BadSize (T : Tx K mg) : Xc K (He.ga K "BadSize") := He.exc_ok (K := K) (x := "BadSize") (T.c.d.fact 44 rfl)
theorem Tx.e_BadSize (T : Tx K mg) : PySem.W.exmOne K (.ref (He.ga K "BadSize")) (.ref (He.ga K "HandError")) = some true := He.exm_ok (T.c.d.fact 45 rfl)
theorem Tx.g_BadPlace (T : Tx K mg) : mg "BadPlace" = some (.ref (He.ga K "BadPlace")) := let ⟨_, X, G⟩ := T.g; He.glo_ok X G (T.c.d.fact 46 rfl)
theorem Tx.x_BadPlace (T : Tx K mg) : Xc K (He.ga K "BadPlace") := He.exc_ok (K := K) (x := "BadPlace") (T.c.d.fact 47 rfl)
theorem Tx.e_BadPlace (T : Tx K mg) : PySem.W.exmOne K (.ref (He.ga K "BadPlace")) (.ref (He.ga K "HandError")) = some true := He.exm_ok (T.c.d.fact 48 rfl)
theorem Tx.g_Filler (T : Tx K mg) : mg "Filler" = some (.ref (He.ga K "Filler")) := let ⟨_, X, G⟩ := T.g; He.glo_ok X G (T.c.d.fact 49 rfl)
theorem Tx.cl_Filler (T : Tx K mg) : Cls K (He.ga K "Filler") := He.cls_ok (T.c.d.fact 50 rfl)
theorem Tx.mr_Filler (T : Tx K mg) : Mk K (He.ga K "Filler") (He.ma K (He.ga K "Filler") "__init__") := He.mkr_ok (T.c.d.fact 51 rfl)
theorem Tx.na_Filler_words (T : Tx K mg) : NoAttr K (He.ga K "Filler") "words" := He.noat_ok (T.c.d.fact 52 rfl)
theorem Tx.me_Filler_start (T : Tx K mg) : Meth K (He.ga K "Filler") "start" (He.ma K (He.ga K "Filler") "start") := He.meth_ok (T.c.d.fact 53 rfl)
theorem Tx.me_Filler_fitting (T : Tx K mg) : Meth K (He.ga K "Filler") "fitting" (He.ma K (He.ga K "Filler") "fitting") := He.meth_ok (T.c.d.fact 54 rfl)
theorem Tx.me_Filler_common (T : Tx K mg) : Meth K (He.ga K "Filler") "common" (He.ma K (He.ga K "Filler") "common") := He.meth_ok (T.c.d.fact 55 rfl)
theorem Tx.g_History (T : Tx K mg) : mg "History" = some (.ref (He.ga K "History")) := let ⟨_, X, G⟩ := T.g; He.glo_ok X G (T.c.d.fact 56 rfl)
theorem Tx.cl_History (T : Tx K mg) : Cls K (He.ga K "History") := He.cls_ok (T.c.d.fact 57 rfl)
theorem Tx.mr_History (T : Tx K mg) : Mk K (He.ga K "History") (He.ma K (He.ga K "History") "__init__") := He.mkr_ok (T.c.d.fact 58 rfl)
theorem Tx.na_History_most (T : Tx K mg) : NoAttr K (He.ga K "History") "most" := He.noat_ok (T.c.d.fact 59 rfl)
theorem Tx.na_History_kept (T : Tx K mg) : NoAttr K (He.ga K "History") "kept" := He.noat_ok (T.c.d.fact 60 rfl)
theorem Tx.na_History_shown (T : Tx K mg) : NoAttr K (He.ga K "History") "shown" := He.noat_ok (T.c.d.fact 61 rfl)
theorem Tx.na_History_spot (T : Tx K mg) : NoAttr K (He.ga K "History") "spot" := He.noat_ok (T.c.d.fact 62 rfl)
theorem Tx.me_History_add (T : Tx K mg) : Meth K (He.ga K "History") "add" (He.ma K (He.ga K "History") "add") := He.meth_ok (T.c.d.fact 63 rfl)
theorem Tx.me_History_all_lines (T : Tx K mg) : Meth K (He.ga K "History") "all_lines" (He.ma K (He.ga K "History") "all_lines") := He.meth_ok (T.c.d.fact 64 rfl)
theorem Tx.me_History_here (T : Tx K mg) : Meth K (He.ga K "History") "here" (He.ma K (He.ga K "History") "here") := He.meth_ok (T.c.d.fact 65 rfl)
theorem Tx.me_History_many (T : Tx K mg) : Meth K (He.ga K "History") "many" (He.ma K (He.ga K "History") "many") := He.meth_ok (T.c.d.fact 66 rfl)
theorem Tx.me_History_keep (T : Tx K mg) : Meth K (He.ga K "History") "keep" (He.ma K (He.ga K "History") "keep") := He.meth_ok (T.c.d.fact 67 rfl)
theorem Tx.me_History_go (T : Tx K mg) : Meth K (He.ga K "History") "go" (He.ma K (He.ga K "History") "go") := He.meth_ok (T.c.d.fact 68 rfl)
theorem Tx.me_History_find (T : Tx K mg) : Meth K (He.ga K "History") "find" (He.ma K (He.ga K "History") "find") := He.meth_ok (T.c.d.fact 69 rfl)
theorem Tx.g_Line (T : Tx K mg) : mg "Line" = some (.ref (He.ga K "Line")) := let ⟨_, X, G⟩ := T.g; He.glo_ok X G (T.c.d.fact 70 rfl)
theorem Tx.cl_Line (T : Tx K mg) : Cls K (He.ga K "Line") := He.cls_ok (T.c.d.fact 71 rfl)
theorem Tx.mr_Line (T : Tx K mg) : Mk K (He.ga K "Line") (He.ma K (He.ga K "Line") "__init__") := He.mkr_ok (T.c.d.fact 72 rfl)
theorem Tx.na_Line_now (T : Tx K mg) : NoAttr K (He.ga K "Line") "now" := He.noat_ok (T.c.d.fact 73 rfl)
theorem Tx.na_Line_caret (T : Tx K mg) : NoAttr K (He.ga K "Line") "caret" := He.noat_ok (T.c.d.fact 74 rfl)
theorem Tx.na_Line_mark (T : Tx K mg) : NoAttr K (He.ga K "Line") "mark" := He.noat_ok (T.c.d.fact 75 rfl)
theorem Tx.na_Line_before (T : Tx K mg) : NoAttr K (He.ga K "Line") "before" := He.noat_ok (T.c.d.fact 76 rfl)
theorem Tx.na_Line_later (T : Tx K mg) : NoAttr K (He.ga K "Line") "later" := He.noat_ok (T.c.d.fact 77 rfl)
theorem Tx.na_Line_run (T : Tx K mg) : NoAttr K (He.ga K "Line") "run" := He.noat_ok (T.c.d.fact 78 rfl)
theorem Tx.me_Line_text (T : Tx K mg) : Meth K (He.ga K "Line") "text" (He.ma K (He.ga K "Line") "text") := He.meth_ok (T.c.d.fact 79 rfl)
theorem Tx.me_Line_at (T : Tx K mg) : Meth K (He.ga K "Line") "at" (He.ma K (He.ga K "Line") "at") := He.meth_ok (T.c.d.fact 80 rfl)
theorem Tx.me_Line_marked (T : Tx K mg) : Meth K (He.ga K "Line") "marked" (He.ma K (He.ga K "Line") "marked") := He.meth_ok (T.c.d.fact 81 rfl)
theorem Tx.me_Line_go (T : Tx K mg) : Meth K (He.ga K "Line") "go" (He.ma K (He.ga K "Line") "go") := He.meth_ok (T.c.d.fact 82 rfl)
theorem Tx.me_Line_rest (T : Tx K mg) : Meth K (He.ga K "Line") "rest" (He.ma K (He.ga K "Line") "rest") := He.meth_ok (T.c.d.fact 83 rfl)
theorem Tx.me_Line_put_mark (T : Tx K mg) : Meth K (He.ga K "Line") "put_mark" (He.ma K (He.ga K "Line") "put_mark") := He.meth_ok (T.c.d.fact 84 rfl)
theorem Tx.me_Line_picture (T : Tx K mg) : Meth K (He.ga K "Line") "picture" (He.ma K (He.ga K "Line") "picture") := He.meth_ok (T.c.d.fact 85 rfl)
theorem Tx.me_Line_show (T : Tx K mg) : Meth K (He.ga K "Line") "show" (He.ma K (He.ga K "Line") "show") := He.meth_ok (T.c.d.fact 86 rfl)
theorem Tx.me_Line_change (T : Tx K mg) : Meth K (He.ga K "Line") "change" (He.ma K (He.ga K "Line") "change") := He.meth_ok (T.c.d.fact 87 rfl)
theorem Tx.me_Line_check (T : Tx K mg) : Meth K (He.ga K "Line") "check" (He.ma K (He.ga K "Line") "check") := He.meth_ok (T.c.d.fact 88 rfl)
theorem Tx.me_Line_replace (T : Tx K mg) : Meth K (He.ga K "Line") "replace" (He.ma K (He.ga K "Line") "replace") := He.meth_ok (T.c.d.fact 89 rfl)
theorem Tx.me_Line_write (T : Tx K mg) : Meth K (He.ga K "Line") "write" (He.ma K (He.ga K "Line") "write") := He.meth_ok (T.c.d.fact 90 rfl)
theorem Tx.me_Line_undo (T : Tx K mg) : Meth K (He.ga K "Line") "undo" (He.ma K (He.ga K "Line") "undo") := He.meth_ok (T.c.d.fact 91 rfl)
theorem Tx.me_Line_redo (T : Tx K mg) : Meth K (He.ga K "Line") "redo" (He.ma K (He.ga K "Line") "redo") := He.meth_ok (T.c.d.fact 92 rfl)
theorem Tx.me_Line_clear (T : Tx K mg) : Meth K (He.ga K "Line") "clear" (He.ma K (He.ga K "Line") "clear") := He.meth_ok (T.c.d.fact 93 rfl)
theorem Tx.me_Line_groups (T : Tx K mg) : Meth K (He.ga K "Line") "groups" (He.ma K (He.ga K "Line") "groups") := He.meth_ok (T.c.d.fact 94 rfl)
theorem Tx.g_Ring (T : Tx K mg) : mg "Ring" = some (.ref (He.ga K "Ring")) := let ⟨_, X, G⟩ := T.g; He.glo_ok X G (T.c.d.fact 95 rfl)
theorem Tx.cl_Ring (T : Tx K mg) : Cls K (He.ga K "Ring") := He.cls_ok (T.c.d.fact 96 rfl)
theorem Tx.mr_Ring (T : Tx K mg) : Mk K (He.ga K "Ring") (He.ma K (He.ga K "Ring") "__init__") := He.mkr_ok (T.c.d.fact 97 rfl)
theorem Tx.na_Ring_most (T : Tx K mg) : NoAttr K (He.ga K "Ring") "most" := He.noat_ok (T.c.d.fact 98 rfl)
theorem Tx.na_Ring_texts (T : Tx K mg) : NoAttr K (He.ga K "Ring") "texts" := He.noat_ok (T.c.d.fact 99 rfl)
theorem Tx.na_Ring_spot (T : Tx K mg) : NoAttr K (He.ga K "Ring") "spot" := He.noat_ok (T.c.d.fact 100 rfl)
theorem Tx.me_Ring_push (T : Tx K mg) : Meth K (He.ga K "Ring") "push" (He.ma K (He.ga K "Ring") "push") := He.meth_ok (T.c.d.fact 101 rfl)
theorem Tx.me_Ring_join (T : Tx K mg) : Meth K (He.ga K "Ring") "join" (He.ma K (He.ga K "Ring") "join") := He.meth_ok (T.c.d.fact 102 rfl)
theorem Tx.me_Ring_meant (T : Tx K mg) : Meth K (He.ga K "Ring") "meant" (He.ma K (He.ga K "Ring") "meant") := He.meth_ok (T.c.d.fact 103 rfl)
theorem Tx.me_Ring_turn (T : Tx K mg) : Meth K (He.ga K "Ring") "turn" (He.ma K (He.ga K "Ring") "turn") := He.meth_ok (T.c.d.fact 104 rfl)
theorem Tx.me_Ring_newest (T : Tx K mg) : Meth K (He.ga K "Ring") "newest" (He.ma K (He.ga K "Ring") "newest") := He.meth_ok (T.c.d.fact 105 rfl)
theorem Tx.me_Ring_all_texts (T : Tx K mg) : Meth K (He.ga K "Ring") "all_texts" (He.ma K (He.ga K "Ring") "all_texts") := He.meth_ok (T.c.d.fact 106 rfl)
theorem Tx.g_Window (T : Tx K mg) : mg "Window" = some (.ref (He.ga K "Window")) := let ⟨_, X, G⟩ := T.g; He.glo_ok X G (T.c.d.fact 107 rfl)
theorem Tx.cl_Window (T : Tx K mg) : Cls K (He.ga K "Window") := He.cls_ok (T.c.d.fact 108 rfl)
theorem Tx.mr_Window (T : Tx K mg) : Mk K (He.ga K "Window") (He.ma K (He.ga K "Window") "__init__") := He.mkr_ok (T.c.d.fact 109 rfl)
theorem Tx.na_Window_width (T : Tx K mg) : NoAttr K (He.ga K "Window") "width" := He.noat_ok (T.c.d.fact 110 rfl)
theorem Tx.na_Window_first (T : Tx K mg) : NoAttr K (He.ga K "Window") "first" := He.noat_ok (T.c.d.fact 111 rfl)
theorem Tx.me_Window_view (T : Tx K mg) : Meth K (He.ga K "Window") "view" (He.ma K (He.ga K "Window") "view") := He.meth_ok (T.c.d.fact 112 rfl)
theorem Tx.g_Search (T : Tx K mg) : mg "Search" = some (.ref (He.ga K "Search")) := let ⟨_, X, G⟩ := T.g; He.glo_ok X G (T.c.d.fact 113 rfl)
theorem Tx.cl_Search (T : Tx K mg) : Cls K (He.ga K "Search") := He.cls_ok (T.c.d.fact 114 rfl)
theorem Tx.mr_Search (T : Tx K mg) : Mk K (He.ga K "Search") (He.ma K (He.ga K "Search") "__init__") := He.mkr_ok (T.c.d.fact 115 rfl)
theorem Tx.na_Search_was (T : Tx K mg) : NoAttr K (He.ga K "Search") "was" := He.noat_ok (T.c.d.fact 116 rfl)
theorem Tx.na_Search_spot (T : Tx K mg) : NoAttr K (He.ga K "Search") "spot" := He.noat_ok (T.c.d.fact 117 rfl)
theorem Tx.na_Search_part (T : Tx K mg) : NoAttr K (He.ga K "Search") "part" := He.noat_ok (T.c.d.fact 118 rfl)
theorem Tx.na_Search_trail (T : Tx K mg) : NoAttr K (He.ga K "Search") "trail" := He.noat_ok (T.c.d.fact 119 rfl)
theorem Tx.me_Search_found (T : Tx K mg) : Meth K (He.ga K "Search") "found" (He.ma K (He.ga K "Search") "found") := He.meth_ok (T.c.d.fact 120 rfl)
theorem Tx.me_Search_is_lost (T : Tx K mg) : Meth K (He.ga K "Search") "is_lost" (He.ma K (He.ga K "Search") "is_lost") := He.meth_ok (T.c.d.fact 121 rfl)
theorem Tx.me_Search_here (T : Tx K mg) : Meth K (He.ga K "Search") "here" (He.ma K (He.ga K "Search") "here") := He.meth_ok (T.c.d.fact 122 rfl)
theorem Tx.me_Search_note (T : Tx K mg) : Meth K (He.ga K "Search") "note" (He.ma K (He.ga K "Search") "note") := He.meth_ok (T.c.d.fact 123 rfl)
theorem Tx.g_Hand (T : Tx K mg) : mg "Hand" = some (.ref (He.ga K "Hand")) := let ⟨_, X, G⟩ := T.g; He.glo_ok X G (T.c.d.fact 124 rfl)
theorem Tx.cl_Hand (T : Tx K mg) : Cls K (He.ga K "Hand") := He.cls_ok (T.c.d.fact 125 rfl)
theorem Tx.mr_Hand (T : Tx K mg) : Mk K (He.ga K "Hand") (He.ma K (He.ga K "Hand") "__init__") := He.mkr_ok (T.c.d.fact 126 rfl)
theorem Tx.na_Hand_line (T : Tx K mg) : NoAttr K (He.ga K "Hand") "line" := He.noat_ok (T.c.d.fact 127 rfl)
theorem Tx.na_Hand_ring (T : Tx K mg) : NoAttr K (He.ga K "Hand") "ring" := He.noat_ok (T.c.d.fact 128 rfl)
theorem Tx.na_Hand_history (T : Tx K mg) : NoAttr K (He.ga K "Hand") "history" := He.noat_ok (T.c.d.fact 129 rfl)
theorem Tx.na_Hand_filler (T : Tx K mg) : NoAttr K (He.ga K "Hand") "filler" := He.noat_ok (T.c.d.fact 130 rfl)
theorem Tx.na_Hand_window (T : Tx K mg) : NoAttr K (He.ga K "Hand") "window" := He.noat_ok (T.c.d.fact 131 rfl)
theorem Tx.na_Hand_entered (T : Tx K mg) : NoAttr K (He.ga K "Hand") "entered" := He.noat_ok (T.c.d.fact 132 rfl)
theorem Tx.na_Hand_last_cut (T : Tx K mg) : NoAttr K (He.ga K "Hand") "last_cut" := He.noat_ok (T.c.d.fact 133 rfl)
theorem Tx.na_Hand_times (T : Tx K mg) : NoAttr K (He.ga K "Hand") "times" := He.noat_ok (T.c.d.fact 134 rfl)
theorem Tx.na_Hand_yanked (T : Tx K mg) : NoAttr K (He.ga K "Hand") "yanked" := He.noat_ok (T.c.d.fact 135 rfl)
theorem Tx.na_Hand_search (T : Tx K mg) : NoAttr K (He.ga K "Hand") "search" := He.noat_ok (T.c.d.fact 136 rfl)
theorem Tx.na_Hand_choice (T : Tx K mg) : NoAttr K (He.ga K "Hand") "choice" := He.noat_ok (T.c.d.fact 137 rfl)
theorem Tx.na_Hand_keys_kept (T : Tx K mg) : NoAttr K (He.ga K "Hand") "keys_kept" := He.noat_ok (T.c.d.fact 138 rfl)
theorem Tx.na_Hand_macro (T : Tx K mg) : NoAttr K (He.ga K "Hand") "macro" := He.noat_ok (T.c.d.fact 139 rfl)
theorem Tx.me_Hand_text (T : Tx K mg) : Meth K (He.ga K "Hand") "text" (He.ma K (He.ga K "Hand") "text") := He.meth_ok (T.c.d.fact 140 rfl)
theorem Tx.me_Hand_at (T : Tx K mg) : Meth K (He.ga K "Hand") "at" (He.ma K (He.ga K "Hand") "at") := He.meth_ok (T.c.d.fact 141 rfl)
theorem Tx.me_Hand_view (T : Tx K mg) : Meth K (He.ga K "Hand") "view" (He.ma K (He.ga K "Hand") "view") := He.meth_ok (T.c.d.fact 142 rfl)
theorem Tx.me_Hand_told (T : Tx K mg) : Meth K (He.ga K "Hand") "told" (He.ma K (He.ga K "Hand") "told") := He.meth_ok (T.c.d.fact 143 rfl)
theorem Tx.me_Hand_looked_for (T : Tx K mg) : Meth K (He.ga K "Hand") "looked_for" (He.ma K (He.ga K "Hand") "looked_for") := He.meth_ok (T.c.d.fact 144 rfl)
theorem Tx.me_Hand_press (T : Tx K mg) : Meth K (He.ga K "Hand") "press" (He.ma K (He.ga K "Hand") "press") := He.meth_ok (T.c.d.fact 145 rfl)
theorem Tx.me_Hand_stop (T : Tx K mg) : Meth K (He.ga K "Hand") "stop" (He.ma K (He.ga K "Hand") "stop") := He.meth_ok (T.c.d.fact 146 rfl)
theorem Tx.me_Hand_play (T : Tx K mg) : Meth K (He.ga K "Hand") "play" (He.ma K (He.ga K "Hand") "play") := He.meth_ok (T.c.d.fact 147 rfl)
theorem Tx.me_Hand_pressed (T : Tx K mg) : Meth K (He.ga K "Hand") "pressed" (He.ma K (He.ga K "Hand") "pressed") := He.meth_ok (T.c.d.fact 148 rfl)
theorem Tx.me_Hand_again (T : Tx K mg) : Meth K (He.ga K "Hand") "again" (He.ma K (He.ga K "Hand") "again") := He.meth_ok (T.c.d.fact 149 rfl)
theorem Tx.me_Hand_once (T : Tx K mg) : Meth K (He.ga K "Hand") "once" (He.ma K (He.ga K "Hand") "once") := He.meth_ok (T.c.d.fact 150 rfl)
theorem Tx.me_Hand_other (T : Tx K mg) : Meth K (He.ga K "Hand") "other" (He.ma K (He.ga K "Hand") "other") := He.meth_ok (T.c.d.fact 151 rfl)
theorem Tx.me_Hand_goal (T : Tx K mg) : Meth K (He.ga K "Hand") "goal" (He.ma K (He.ga K "Hand") "goal") := He.meth_ok (T.c.d.fact 152 rfl)
theorem Tx.me_Hand_between (T : Tx K mg) : Meth K (He.ga K "Hand") "between" (He.ma K (He.ga K "Hand") "between") := He.meth_ok (T.c.d.fact 153 rfl)
theorem Tx.me_Hand_cut (T : Tx K mg) : Meth K (He.ga K "Hand") "cut" (He.ma K (He.ga K "Hand") "cut") := He.meth_ok (T.c.d.fact 154 rfl)
theorem Tx.me_Hand_take (T : Tx K mg) : Meth K (He.ga K "Hand") "take" (He.ma K (He.ga K "Hand") "take") := He.meth_ok (T.c.d.fact 155 rfl)
theorem Tx.me_Hand_yank (T : Tx K mg) : Meth K (He.ga K "Hand") "yank" (He.ma K (He.ga K "Hand") "yank") := He.meth_ok (T.c.d.fact 156 rfl)
theorem Tx.me_Hand_recase (T : Tx K mg) : Meth K (He.ga K "Hand") "recase" (He.ma K (He.ga K "Hand") "recase") := He.meth_ok (T.c.d.fact 157 rfl)
theorem Tx.me_Hand_swap (T : Tx K mg) : Meth K (He.ga K "Hand") "swap" (He.ma K (He.ga K "Hand") "swap") := He.meth_ok (T.c.d.fact 158 rfl)
theorem Tx.me_Hand_undo (T : Tx K mg) : Meth K (He.ga K "Hand") "undo" (He.ma K (He.ga K "Hand") "undo") := He.meth_ok (T.c.d.fact 159 rfl)
theorem Tx.me_Hand_recall (T : Tx K mg) : Meth K (He.ga K "Hand") "recall" (He.ma K (He.ga K "Hand") "recall") := He.meth_ok (T.c.d.fact 160 rfl)
theorem Tx.me_Hand_load (T : Tx K mg) : Meth K (He.ga K "Hand") "load" (He.ma K (He.ga K "Hand") "load") := He.meth_ok (T.c.d.fact 161 rfl)
theorem Tx.me_Hand_enter (T : Tx K mg) : Meth K (He.ga K "Hand") "enter" (He.ma K (He.ga K "Hand") "enter") := He.meth_ok (T.c.d.fact 162 rfl)
theorem Tx.me_Hand_fill (T : Tx K mg) : Meth K (He.ga K "Hand") "fill" (He.ma K (He.ga K "Hand") "fill") := He.meth_ok (T.c.d.fact 163 rfl)
theorem Tx.me_Hand_next_choice (T : Tx K mg) : Meth K (He.ga K "Hand") "next_choice" (He.ma K (He.ga K "Hand") "next_choice") := He.meth_ok (T.c.d.fact 164 rfl)
theorem Tx.me_Hand_filled (T : Tx K mg) : Meth K (He.ga K "Hand") "filled" (He.ma K (He.ga K "Hand") "filled") := He.meth_ok (T.c.d.fact 165 rfl)
theorem Tx.me_Hand_searched (T : Tx K mg) : Meth K (He.ga K "Hand") "searched" (He.ma K (He.ga K "Hand") "searched") := He.meth_ok (T.c.d.fact 166 rfl)
theorem Tx.me_Hand_show_found (T : Tx K mg) : Meth K (He.ga K "Hand") "show_found" (He.ma K (He.ga K "Hand") "show_found") := He.meth_ok (T.c.d.fact 167 rfl)
theorem Tx.c_LETTERS (T : Tx K mg) : ∃ u, mg "LETTERS" = some u ∧ RelV (.str "abcdefghijklmnopqrstuvwxyzABCDEFGHIJKLMNOPQRSTUVWXYZ0123456789") u := let ⟨_, X, G⟩ := T.g; let ⟨t, e⟩ := He.str_ok X G (T.c.d.fact 168 rfl); ⟨_, e, t, rfl⟩
theorem Tx.c_MOST_TEXT (T : Tx K mg) : ∃ u, mg "MOST_TEXT" = some u ∧ RelV (.int 400) u := let ⟨_, X, G⟩ := T.g; let ⟨t, e⟩ := He.int_ok X G (T.c.d.fact 169 rfl); ⟨_, e, t, rfl⟩
theorem Tx.c_MOST_WORDS (T : Tx K mg) : ∃ u, mg "MOST_WORDS" = some u ∧ RelV (.int 200) u := let ⟨_, X, G⟩ := T.g; let ⟨t, e⟩ := He.int_ok X G (T.c.d.fact 170 rfl); ⟨_, e, t, rfl⟩
theorem Tx.c_MOST_LINES (T : Tx K mg) : ∃ u, mg "MOST_LINES" = some u ∧ RelV (.int 200) u := let ⟨_, X, G⟩ := T.g; let ⟨t, e⟩ := He.int_ok X G (T.c.d.fact 171 rfl); ⟨_, e, t, rfl⟩
theorem Tx.c_MOST_RUN (T : Tx K mg) : ∃ u, mg "MOST_RUN" = some u ∧ RelV (.int 20) u := let ⟨_, X, G⟩ := T.g; let ⟨t, e⟩ := He.int_ok X G (T.c.d.fact 172 rfl); ⟨_, e, t, rfl⟩
theorem Tx.c_MOST_RING (T : Tx K mg) : ∃ u, mg "MOST_RING" = some u ∧ RelV (.int 20) u := let ⟨_, X, G⟩ := T.g; let ⟨t, e⟩ := He.int_ok X G (T.c.d.fact 173 rfl); ⟨_, e, t, rfl⟩
theorem Tx.c_LEAST (T : Tx K mg) : ∃ u, mg "LEAST" = some u ∧ RelV (.int 4) u := let ⟨_, X, G⟩ := T.g; let ⟨t, e⟩ := He.int_ok X G (T.c.d.fact 174 rfl); ⟨_, e, t, rfl⟩
theorem Tx.c_MOST (T : Tx K mg) : ∃ u, mg "MOST" = some u ∧ RelV (.int 400) u := let ⟨_, X, G⟩ := T.g; let ⟨t, e⟩ := He.int_ok X G (T.c.d.fact 175 rfl); ⟨_, e, t, rfl⟩
theorem Tx.g_MOVES (T : Tx K mg) : mg "MOVES" = some (.ref (He.ga K "MOVES")) := let ⟨_, X, G⟩ := T.g; He.glo_ok X G (T.c.d.fact 176 rfl)
theorem Tx.g_CUTS (T : Tx K mg) : mg "CUTS" = some (.ref (He.ga K "CUTS")) := let ⟨_, X, G⟩ := T.g; He.glo_ok X G (T.c.d.fact 177 rfl)
theorem Tx.g_OTHERS (T : Tx K mg) : mg "OTHERS" = some (.ref (He.ga K "OTHERS")) := let ⟨_, X, G⟩ := T.g; He.glo_ok X G (T.c.d.fact 178 rfl)
theorem Tx.c_FIGURES (T : Tx K mg) : ∃ u, mg "FIGURES" = some u ∧ RelV (.str "0123456789") u := let ⟨_, X, G⟩ := T.g; let ⟨t, e⟩ := He.str_ok X G (T.c.d.fact 179 rfl); ⟨_, e, t, rfl⟩
theorem Tx.c_MOST_TIMES (T : Tx K mg) : ∃ u, mg "MOST_TIMES" = some u ∧ RelV (.int 99) u := let ⟨_, X, G⟩ := T.g; let ⟨t, e⟩ := He.int_ok X G (T.c.d.fact 180 rfl); ⟨_, e, t, rfl⟩
theorem Tx.c_MOST_KEYS (T : Tx K mg) : ∃ u, mg "MOST_KEYS" = some u ∧ RelV (.int 100) u := let ⟨_, X, G⟩ := T.g; let ⟨t, e⟩ := He.int_ok X G (T.c.d.fact 181 rfl); ⟨_, e, t, rfl⟩
theorem Tx.n_ValueError (T : Tx K mg) : mg "ValueError" = none := let ⟨_, X, G⟩ := T.g; He.free_ok X G (T.c.d.fact 182 rfl)
theorem Tx.n_all (T : Tx K mg) : mg "all" = none := let ⟨_, X, G⟩ := T.g; He.free_ok X G (T.c.d.fact 183 rfl)
theorem Tx.n_int (T : Tx K mg) : mg "int" = none := let ⟨_, X, G⟩ := T.g; He.free_ok X G (T.c.d.fact 184 rfl)
theorem Tx.n_len (T : Tx K mg) : mg "len" = none := let ⟨_, X, G⟩ := T.g; He.free_ok X G (T.c.d.fact 185 rfl)
theorem Tx.n_list (T : Tx K mg) : mg "list" = none := let ⟨_, X, G⟩ := T.g; He.free_ok X G (T.c.d.fact 186 rfl)
theorem Tx.n_max (T : Tx K mg) : mg "max" = none := let ⟨_, X, G⟩ := T.g; He.free_ok X G (T.c.d.fact 187 rfl)
theorem Tx.n_min (T : Tx K mg) : mg "min" = none := let ⟨_, X, G⟩ := T.g; He.free_ok X G (T.c.d.fact 188 rfl)
theorem Tx.n_ord (T : Tx K mg) : mg "ord" = none := let ⟨_, X, G⟩ := T.g; He.free_ok X G (T.c.d.fact 189 rfl)
theorem Tx.n_range (T : Tx K mg) : mg "range" = none := let ⟨_, X, G⟩ := T.g; He.free_ok X G (T.c.d.fact 190 rfl)
theorem Tx.n_set (T : Tx K mg) : mg "set" = none := let ⟨_, X, G⟩ := T.g; He.free_ok X G (T.c.d.fact 191 rfl)
theorem Tx.n_sorted (T : Tx K mg) : mg "sorted" = none := let ⟨_, X, G⟩ := T.g; He.free_ok X G (T.c.d.fact 192 rfl)
theorem Tx.t_MOVES (T : Tx K mg) (H : Hp) : SqT K H (He.ga K "MOVES") (([.str "left", .str "right", .str "home", .str "end", .str "wordleft", .str "wordright"] : List He.Dv).map (He.Dv.v K)) := He.tupB_ok (He.ba (He.ba T.c.ex).1).1 H
theorem Tx.t_CUTS (T : Tx K mg) (H : Hp) : SqT K H (He.ga K "CUTS") (([.str "rubword", .str "delword", .str "cutend", .str "cutstart", .str "cutmark"] : List He.Dv).map (He.Dv.v K)) := He.tupB_ok (He.ba (He.ba T.c.ex).1).2 H
theorem Tx.t_OTHERS (T : Tx K mg) (H : Hp) : SqT K H (He.ga K "OTHERS") (([.str "rub", .str "del", .str "yank", .str "pop", .str "swap", .str "great", .str "small", .str "cap", .str "mark", .str "swapmark", .str "copymark", .str "undo", .str "redo", .str "up", .str "down", .str "search", .str "fill", .str "enter", .str "cancel", .str "record", .str "stop", .str "play"] : List He.Dv).map (He.Dv.v K)) := He.tupB_ok (He.ba T.c.ex).2 H
end

/-! the head: one run of the top, by the kernel -/
def loose0 : List PySem.Str := ["_wall", "__name__", "HandError", "BadKey", "BadText", "BadSize", "BadPlace", "LETTERS", "MOST_TEXT", "is_sign", "look_text", "look_place", "is_letter", "word_end", "word_start", "recased", "MOST_WORDS", "Filler", "MOST_LINES", "History", "MOST_RUN", "Line", "MOST_RING", "Ring", "LEAST", "MOST", "Window", "MOVES", "CUTS", "OTHERS"]
def loose1 : List PySem.Str := ["FIGURES", "MOST_TIMES", "MOST_KEYS", "is_key", "Search", "Hand", "_law_cell", "_law_mix", "_law_draw", "_law_pick", "_law_letter", "_law_end", "_law_start", "_law_recased", "_law_put", "_law_set", "_law_goal", "_law_undo", "_law_sign", "_law_edit", "_law_fresh", "_law_load", "_law_recall", "_law_enter", "_law_begun", "_law_press", "_law_find", "_law_show", "_law_searched", "_law_key"]
def loose : List PySem.Str := loose0 ++ loose1
abbrev R : PySem.W.OpenRow := PySem.W.OpenLaw.row PySem.Challenge.rw_linehand_k43_whole_searches
abbrev hookP : PySem.W.Hook := hookY fa fn ex
def ob (s : PySem.W.SharedT) : AlY := obsY fa fn ex (HandSHeadRun.getT s)
theorem ob_eq (s : PySem.W.SharedT) : ob s = hookP.obs s.abs := obsY_eq (HandSHeadRun.getT_eq s)
theorem run1 (w : World) (os : OsState) : (HandSHeadRun.endF (HandSHeadRun.stepQ (HandSHeadRun.denQ HandSHeadRun.tabQ) R.prog w) 40000 R.prog w os).map (fun s => HandSHeadRun.looksF R.prog (PySem.W.boot_heap w.params) s.abs) = some true := by
  kernel_rfl
theorem run2 (w : World) (os : OsState) : (HandSHeadRun.endF (HandSHeadRun.stepQ (HandSHeadRun.denQ HandSHeadRun.tabQ) R.prog w) 40000 R.prog w os).map (fun s => HandSHeadRun.seenQ (PySem.W.view R.prog [68]) loose (importedModules R.prog.main.body) (fun s => PySem.W.xlAt (PySem.W.view R.prog [68]) [] s && PySem.W.recOk R.toRowW.records s) s.abs) = some (PySem.W.openGood (PySem.W.view R.prog [68]) loose) := by
  kernel_rfl
theorem run3 (w : World) (os : OsState) : (HandSHeadRun.endF (HandSHeadRun.stepQ (HandSHeadRun.denQ HandSHeadRun.tabQ) R.prog w) 40000 R.prog w os).map (fun s => ob s) = some (valY fn) := by
  kernel_rfl
theorem run (w : World) : HandSHeadRun.RunEq R (PySem.W.view R.prog [68]) hookP ob 40000 loose w := fun os => map_two (run1 w os) (map_two (run2 w os) (run3 w os))

theorem sc_is_sign : FnScope ["sign"] ["sign"] (defScope s_is_sign) := ⟨rfl, rfl, rfl, by decide +kernel, rfl, by decide +kernel, by decide +kernel⟩
section
variable {P : Program} {w : World} {K : PySem.W.Frag} {mg : Str → Option Value} {base : Heap}
def sp_is_sign : Sp := fun vs H Q _ => ∃ s : Str, vs = [.str s] ∧ s.length ≤ sizeLine ∧ Q (.bl (isSign s)) H
theorem f_is_sign (T : Tx K mg) : Fn P w K mg base "is_sign" 1 ["sign"] sp_is_sign := by
  obtain ⟨fd, F⟩ := T.c.d.def_ 1 (d := d_is_sign) rfl
  refine ⟨_, fd, F.ok (CX := L2.CX P w) sc_is_sign (fun vs H Q E h => ?len) (fun cdv A outer s H vs Q E hr h => ?body), T.g_is_sign, F.kp, F.bindsN fun _ _ _ _ _ _ us hl => match us, hl with | [_], _ => rfl, FunD.bindsA F fun _ _ _ _ _ _ us hl => match us, hl with | [_], _ => rfl⟩
  case len => obtain ⟨x, rfl, hx, k⟩ := h; rfl
  case body =>
    obtain ⟨x, rfl, hx, k⟩ := h
    refine ⟨_, (pss_one (ps_ret (pe_and (pe_cmpR op_eq (pe_callB (call_lnK (K := K) rfl) rfl T.n_len boot_len (pa_cons (pv 0) pa_nil)) pe_int (nomark _)) (pe_and (pe_chain op_le op_lt pe_int (pe_callB call_or rfl T.n_ord (by decide +kernel) (pa_cons (pv 0) pa_nil)) pe_int) (pe_one (pe_cmpR op_ne (pe_callB call_or rfl T.n_ord (by decide +kernel) (pa_cons (pv 0) pa_nil)) pe_int (nomark _))))))), ?_⟩
    walk_at "z"
    refine ite_b (fun h1 => ?_) (fun h1 => ?_)
    · have hl : x.length = 1 := by
        have := of_decide_eq_true h1
        simp at this; omega
      have hl2 : (tl x).length = 1 := by rw [← len_tl]; exact hl
      obtain ⟨c, hc⟩ := List.length_eq_one_iff.mp hl2
      have e : x.cps.getD 0 0 = c := by
        have : x.cps = #[c] := by rw [← Array.toList_inj]; exact hc
        rw [this]; rfl
      have es : isSign x = okc c := by unfold isSign; rw [hc]
      walk_at "z"
      rw [e]
      refine ite_b (fun h2 => ?_) (fun h2 => ?_)
      · have h2' := of_decide_eq_true h2
        walk_at "z"
        refine ite_b (fun h3 => ?_) (fun h3 => ?_)
        · have h3' := of_decide_eq_true h3
          walk_at "z"
          have q : isSign x = !decide (V.int ↑(x.cps.getD 0 0) = V.int 37) := by
            have a1 : 32 ≤ c := by omega
            have a2 : c < 127 := by omega
            rw [es, e]; simp [okc, a1, a2]; omega
          rw [q] at k; exact k
        · have h3' := of_decide_eq_false h3
          have q : isSign x = false := by rw [es]; simp [okc]; omega
          rw [q] at k; exact k
      · have h2' := of_decide_eq_false h2
        walk_at "z"
        have q : isSign x = false := by rw [es]; simp [okc]; omega
        rw [q] at k; exact k
    · have hl : ¬ x.length = 1 := by
        intro hl
        have := of_decide_eq_false h1
        apply this; rw [hl]; rfl
      have e : isSign x = false := by
        unfold isSign
        split
        · rename_i c hc
          exact absurd (by rw [len_tl, hc]; rfl) hl
        · rfl
      rw [e] at k
      exact k
end

theorem sc_look_place : FnScope ["text", "at"] ["text", "at"] (defScope s_look_place) := ⟨rfl, rfl, rfl, by decide +kernel, rfl, by decide +kernel, by decide +kernel⟩
section
variable {P : Program} {w : World} {K : PySem.W.Frag} {mg : Str → Option Value} {base : Heap}
def sp_look_place (K : PySem.W.Frag) : Sp := fun vs H Q E => ∃ (x : Str) (a : Int), vs = [.str x, .int a] ∧ x.length ≤ sizeLine ∧ (LineS.place x a → Q .non H) ∧ (¬ LineS.place x a → E (.ref (He.ga K "BadPlace")) none H)
theorem f_look_place (T : Tx K mg) : Fn P w K mg base "look_place" 1 ["text", "at"] (sp_look_place K) := by
  obtain ⟨fd, F⟩ := T.c.d.def_ 3 (d := d_look_place) rfl
  refine ⟨_, fd, F.ok (CX := L2.CX P w) sc_look_place (fun vs H Q E h => ?len) (fun cdv A outer s H vs Q E hr h => ?body), T.g_look_place, F.kp, F.bindsN fun _ _ _ _ _ _ us hl => match us, hl with | [_, _], _ => rfl, FunD.bindsA F fun _ _ _ _ _ _ us hl => match us, hl with | [_, _], _ => rfl⟩
  case len => obtain ⟨x, a, rfl, hx, k1, k2⟩ := h; rfl
  case body =>
    obtain ⟨x, a, rfl, hx, k1, k2⟩ := h
    refine ⟨_, (pss_one (ps_if (pt_not (pt_chain op_le op_le pe_int (pv 1) (pe_callB (call_lnK (K := K) rfl) rfl T.n_len boot_len (pa_cons (pv 0) pa_nil)))) (pss_one (ps_rs rfl tkOf T.x_BadPlace T.g_BadPlace)) pss_nil)), ?_⟩
    walk_at "z"
    refine ite_b (fun h1 => ?_) (fun h1 => ?_)
    · have h1' := of_decide_eq_true h1
      walk_at "z"
      refine ite_b (fun h2 => ?_) (fun h2 => ?_)
      · walk_at "z"
        refine k2 fun z => ?_
        have := z.2
        simp at h2; omega
      · walk_at "z"
        refine k1 ⟨h1', ?_⟩
        simpa using h2
    · have h1' := of_decide_eq_false h1
      walk_at "z"
      exact k2 fun z => h1' z.1
end

theorem sc_is_letter : FnScope ["text", "at"] ["text", "at"] (defScope s_is_letter) := ⟨rfl, rfl, rfl, by decide +kernel, rfl, by decide +kernel, by decide +kernel⟩
section
variable {P : Program} {w : World} {K : PySem.W.Frag} {mg : Str → Option Value} {base : Heap}
def sp_is_letter (K : PySem.W.Frag) : Sp := fun vs H Q _ => ∃ (x : Str) (a : Int), vs = [.str x, .int a] ∧ okText x = true ∧ Q (.bl (letAt (tl x) a)) H
theorem f_is_letter (T : Tx K mg) : Fn P w K mg base "is_letter" 1 ["text", "at"] (sp_is_letter K) := by
  obtain ⟨fd, F⟩ := T.c.d.def_ 4 (d := d_is_letter) rfl
  refine ⟨_, fd, F.ok (CX := L2.CX P w) sc_is_letter (fun vs H Q E h => ?len) (fun cdv A outer s H vs Q E hr h => ?body), T.g_is_letter, F.kp, F.bindsN fun _ _ _ _ _ _ us hl => match us, hl with | [_, _], _ => rfl, FunD.bindsA F fun _ _ _ _ _ _ us hl => match us, hl with | [_, _], _ => rfl⟩
  case len => obtain ⟨x, a, rfl, ok, k⟩ := h; rfl
  case body =>
    obtain ⟨x, a, rfl, ok, k⟩ := h
    refine ⟨_, (pss_one (ps_ret (pe_and (pe_chain op_le op_lt pe_int (pv 1) (pe_callB (call_lnK (K := K) rfl) rfl T.n_len boot_len (pa_cons (pv 0) pa_nil))) (pe_one (pe_cmpR op_inStr (pe_ix ix_str (pv 0) (pv 1) (fun _ _ => rfl)) (pe_gcon T.c_LETTERS) rfl))))), ?_⟩
    have hl := okText_len ok
    have e := len_tl x
    walk_at "z"
    refine ite_b (fun h1 => ?_) (fun h1 => ?_)
    · have h1' := of_decide_eq_true h1
      walk_at "z"
      refine ite_b (fun h2 => ?_) (fun h2 => ?_)
      · have h2' := of_decide_eq_true h2
        obtain ⟨c, c1, c2⟩ := in_get (l := tl x) h1' (by omega)
        walk_at "z"
        refine z_ixS (c := c) (by rw [sizeLine_eq]; omega) c2 ?_
        walk_at "z"
        rw [isL_in c (okc_lt (List.all_eq_true.mp (okText_all ok) c (List.mem_of_getElem? c1))), ← letAt_of h1' c1]
        exact k
      · have h2' := of_decide_eq_false h2
        walk_at "z"
        rw [letAt_big (by omega)] at k
        exact k
    · have h1' := of_decide_eq_false h1
      walk_at "z"
      rw [letAt_neg (by omega)] at k
      exact k
end

theorem sc_History_init : FnScope ["self", "most"] ["self", "most"] (defScope s_History_init) := ⟨rfl, rfl, rfl, by decide +kernel, rfl, by decide +kernel, by decide +kernel⟩
section
variable {P : Program} {w : World} {K : PySem.W.Frag} {mg : Str → Option Value} {base : Heap}
def sp_History_init (K : PySem.W.Frag) : Sp := fun vs H Q E => ∃ (p dx : Addr) (m : Int), vs = [.ref p, .int m] ∧ H p = some (.ins (He.ga K "History") dx []) ∧
  (1 ≤ m → m ≤ 200 → ∀ H' lk ls, H lk = none → H ls = none → HistAt K H' p lk ls m [] [""] 0 → Fr [p] H H' → Q .non H') ∧
  (¬ (1 ≤ m ∧ m ≤ 200) → E (.ref (He.ga K "BadSize")) none H)
theorem mk_History (T : Tx K mg) : Mkr P w K mg base "History" (He.ga K "History") 1 ["self", "most"] (sp_History_init K) := by
  obtain ⟨fd, F⟩ := T.c.d.def_ 12 (d := d_History_init) rfl
  refine ⟨_, fd, F.ok (CX := L2.CX P w) sc_History_init (fun vs H Q E h => ?len) (fun cdv A outer s H vs Q E hr h => ?body), T.mr_History, T.g_History, F.bindsN fun _ _ _ _ _ _ us hl => match us, hl with | [_, _], _ => rfl⟩
  case len => obtain ⟨p, dx, m, rfl, hp, k1, k2⟩ := h; rfl
  case body =>
    obtain ⟨p, dx, m, rfl, hp, k1, k2⟩ := h
    refine ⟨_, (pss_cons (ps_if (pt_not (pt_chain op_le op_le pe_int (pv 1) (pe_gcon T.c_MOST_LINES))) (pss_one (ps_rs rfl tkOf T.x_BadSize T.g_BadSize)) pss_nil)
      (pss_cons (ps_put T.cl_History T.na_History_most (pv 0) (pv 1))
      (pss_cons (ps_put T.cl_History T.na_History_kept (pv 0) (pe_lst pa_nil))
      (pss_cons (ps_put T.cl_History T.na_History_shown (pv 0) (pe_lst (pa_cons pe_str pa_nil)))
      (pss_one (ps_put T.cl_History T.na_History_spot (pv 0) pe_int)))))), ?_⟩
    walk_at "z"
    refine ite_b (fun h1 => ?_) (fun h1 => ?_)
    · have h1' := of_decide_eq_true h1
      walk_at "z"
      refine ite_b (fun h2 => ?_) (fun h2 => ?_)
      · walk_at "z"
        exact k2 (by simp at h2; omega)
      · have h2' : m ≤ 200 := by simpa using h2
        walk_at "z"
        intro l hl
        have hpl : p ≠ l := (un_fresh hl).1.symm
        walk_at "z"
        intro l2 hl2
        have hpl2 : p ≠ l2 := (un_fresh hl2).1.symm
        have hll : l2 ≠ l := (un_fresh (un_fresh hl2).2).1
        walk_at "z"
        exact k1 h1' h2' _ l l2 (un_fresh hl).2 (un_fresh (un_fresh (un_fresh hl2).2).2).2 ⟨⟨dx, by walk_at "h"⟩, by walk_at "h", by walk_at "h", hll.symm⟩ (by walk_at "fr")
    · have h1' := of_decide_eq_false h1
      walk_at "z"
      exact k2 (by omega)
end

theorem sc_History_all_lines : FnScope ["self"] ["self"] (defScope s_History_all_lines) := ⟨rfl, rfl, rfl, by decide +kernel, rfl, by decide +kernel, by decide +kernel⟩
section
variable {P : Program} {w : World} {K : PySem.W.Frag} {mg : Str → Option Value} {base : Heap}
def sp_History_all_lines (K : PySem.W.Frag) : Sp := fun vs H Q _ => ∃ (p lk ls : Addr) (m s : Int) (ks ss : List Str), vs = [.ref p] ∧ HistAt K H p lk ls m ks ss s ∧ ∀ q, H q = none → Q (.ref q) (upd H q (.lst (ks.map V.str)))
theorem m_History_all_lines (T : Tx K mg) : Mt P w K mg base (He.ga K "History") "all_lines" 1 ["self"] (sp_History_all_lines K) := by
  obtain ⟨fd, F⟩ := T.c.d.def_ 14 (d := d_History_all_lines) rfl
  refine ⟨_, fd, F.ok (CX := L2.CX P w) sc_History_all_lines (fun vs H Q E h => ?len) (fun cdv A outer s H vs Q E hr h => ?body), T.me_History_all_lines, T.cl_History, F.bindsN fun _ _ _ _ _ _ us hl => match us, hl with | [_], _ => rfl⟩
  case len => obtain ⟨p, lk, ls, m, s0, ks, ss, rfl, ⟨⟨dx, ho⟩, hk, hsl, hne⟩, k⟩ := h; rfl
  case body =>
    obtain ⟨p, lk, ls, m, s0, ks, ss, rfl, ⟨⟨dx, ho⟩, hk, hsl, hne⟩, k⟩ := h
    refine ⟨_, (pss_one (ps_ret (pe_callTy (call_loK (K := K) rfl) rfl T.n_list (by decide +kernel) (pa_cons (pe_get T.cl_History T.na_History_kept (pv 0)) pa_nil)))), ?_⟩
    walk_at "z"
    exact k
end

theorem sc_History_here : FnScope ["self"] ["self"] (defScope s_History_here) := ⟨rfl, rfl, rfl, by decide +kernel, rfl, by decide +kernel, by decide +kernel⟩
section
variable {P : Program} {w : World} {K : PySem.W.Frag} {mg : Str → Option Value} {base : Heap}
def sp_History_here (K : PySem.W.Frag) : Sp := fun vs H Q _ => ∃ (p lk ls : Addr) (m s : Int) (ks ss : List Str), vs = [.ref p] ∧ HistAt K H p lk ls m ks ss s ∧ Q (.int s) H
theorem m_History_here (T : Tx K mg) : Mt P w K mg base (He.ga K "History") "here" 1 ["self"] (sp_History_here K) := by
  obtain ⟨fd, F⟩ := T.c.d.def_ 15 (d := d_History_here) rfl
  refine ⟨_, fd, F.ok (CX := L2.CX P w) sc_History_here (fun vs H Q E h => ?len) (fun cdv A outer s H vs Q E hr h => ?body), T.me_History_here, T.cl_History, F.bindsN fun _ _ _ _ _ _ us hl => match us, hl with | [_], _ => rfl⟩
  case len => obtain ⟨p, lk, ls, m, s0, ks, ss, rfl, ⟨⟨dx, ho⟩, hk, hsl, hne⟩, k⟩ := h; rfl
  case body =>
    obtain ⟨p, lk, ls, m, s0, ks, ss, rfl, ⟨⟨dx, ho⟩, hk, hsl, hne⟩, k⟩ := h
    refine ⟨_, (pss_one (ps_ret (pe_get T.cl_History T.na_History_spot (pv 0)))), ?_⟩
    walk_at "z"
    exact k
end

theorem sc_History_many : FnScope ["self"] ["self"] (defScope s_History_many) := ⟨rfl, rfl, rfl, by decide +kernel, rfl, by decide +kernel, by decide +kernel⟩
section
variable {P : Program} {w : World} {K : PySem.W.Frag} {mg : Str → Option Value} {base : Heap}
def sp_History_many (K : PySem.W.Frag) : Sp := fun vs H Q _ => ∃ (p lk ls : Addr) (m s : Int) (ks ss : List Str), vs = [.ref p] ∧ HistAt K H p lk ls m ks ss s ∧ Q (.int (ks.length : Nat)) H
theorem m_History_many (T : Tx K mg) : Mt P w K mg base (He.ga K "History") "many" 1 ["self"] (sp_History_many K) := by
  obtain ⟨fd, F⟩ := T.c.d.def_ 16 (d := d_History_many) rfl
  refine ⟨_, fd, F.ok (CX := L2.CX P w) sc_History_many (fun vs H Q E h => ?len) (fun cdv A outer s H vs Q E hr h => ?body), T.me_History_many, T.cl_History, F.bindsN fun _ _ _ _ _ _ us hl => match us, hl with | [_], _ => rfl⟩
  case len => obtain ⟨p, lk, ls, m, s0, ks, ss, rfl, ⟨⟨dx, ho⟩, hk, hsl, hne⟩, k⟩ := h; rfl
  case body =>
    obtain ⟨p, lk, ls, m, s0, ks, ss, rfl, ⟨⟨dx, ho⟩, hk, hsl, hne⟩, k⟩ := h
    refine ⟨_, (pss_one (ps_ret (pe_callB (call_lnK (K := K) rfl) rfl T.n_len boot_len (pa_cons (pe_get T.cl_History T.na_History_kept (pv 0)) pa_nil)))), ?_⟩
    walk_at "z"
    show Q (.int ((ks.map V.str).length : Nat)) H
    rw [List.length_map]
    exact k
end

theorem sc_History_keep : FnScope ["self", "text"] ["self", "text"] (defScope s_History_keep) := ⟨rfl, rfl, rfl, by decide +kernel, rfl, by decide +kernel, by decide +kernel⟩
section
variable {P : Program} {w : World} {K : PySem.W.Frag} {mg : Str → Option Value} {base : Heap}
def sp_History_keep (K : PySem.W.Frag) : Sp := fun vs H Q _ => ∃ (p lk ls : Addr) (m : Int) (s : Nat) (ks ss : List Str) (x : Str), vs = [.ref p, .str x] ∧ HistAt K H p lk ls m ks ss s ∧ s < ss.length ∧ ∀ H', HistAt K H' p lk ls m ks (ss.set s x) s → Fr [ls] H H' → Q .non H'
theorem m_History_keep (T : Tx K mg) : Mt P w K mg base (He.ga K "History") "keep" 1 ["self", "text"] (sp_History_keep K) := by
  obtain ⟨fd, F⟩ := T.c.d.def_ 17 (d := d_History_keep) rfl
  refine ⟨_, fd, F.ok (CX := L2.CX P w) sc_History_keep (fun vs H Q E h => ?len) (fun cdv A outer s H vs Q E hr h => ?body), T.me_History_keep, T.cl_History, F.bindsN fun _ _ _ _ _ _ us hl => match us, hl with | [_, _], _ => rfl⟩
  case len => obtain ⟨p, lk, ls, m, s0, ks, ss, x, rfl, ⟨⟨dx, ho⟩, hk, hsl, hne⟩, hs, k⟩ := h; rfl
  case body =>
    obtain ⟨p, lk, ls, m, s0, ks, ss, x, rfl, ⟨⟨dx, ho⟩, hk, hsl, hne⟩, hs, k⟩ := h
    refine ⟨_, (pss_one (ps_asg (pv 1) (pg_sub (pe_get T.cl_History T.na_History_shown (pv 0)) (pe_get T.cl_History T.na_History_spot (pv 0)) set_list))), ?_⟩
    have nps : p ≠ ls := ne_of ho hsl (by intro z; cases z)
    walk_at "z"
    refine z_setL (j := s0) hsl (Evl.ixN_nat (by simpa using hs)) ?_
    refine k _ ⟨⟨dx, by walk_at "h"⟩, by walk_at "h", ?_, hne⟩ (by walk_at "fr")
    rw [upd_same, List.map_set]
end

theorem sc_History_go : FnScope ["self", "spot"] ["self", "spot"] (defScope s_History_go) := ⟨rfl, rfl, rfl, by decide +kernel, rfl, by decide +kernel, by decide +kernel⟩
section
variable {P : Program} {w : World} {K : PySem.W.Frag} {mg : Str → Option Value} {base : Heap}
def sp_History_go (K : PySem.W.Frag) : Sp := fun vs H Q E => ∃ (p lk ls : Addr) (m s g : Int) (ks ss : List Str), vs = [.ref p, .int g] ∧ HistAt K H p lk ls m ks ss s ∧
  (∀ (j : Nat) (y : Str), g = j → ss[j]? = some y → ∀ H', HistAt K H' p lk ls m ks ss g → Fr [p] H H' → Q (.str y) H') ∧ (¬ (0 ≤ g ∧ g < ss.length) → E (.ref (He.ga K "BadPlace")) none H)
theorem m_History_go (T : Tx K mg) : Mt P w K mg base (He.ga K "History") "go" 1 ["self", "spot"] (sp_History_go K) := by
  obtain ⟨fd, F⟩ := T.c.d.def_ 18 (d := d_History_go) rfl
  refine ⟨_, fd, F.ok (CX := L2.CX P w) sc_History_go (fun vs H Q E h => ?len) (fun cdv A outer s H vs Q E hr h => ?body), T.me_History_go, T.cl_History, F.bindsN fun _ _ _ _ _ _ us hl => match us, hl with | [_, _], _ => rfl⟩
  case len => obtain ⟨p, lk, ls, m, s0, g, ks, ss, rfl, ⟨⟨dx, ho⟩, hk, hsl, hne⟩, k1, k2⟩ := h; rfl
  case body =>
    obtain ⟨p, lk, ls, m, s0, g, ks, ss, rfl, ⟨⟨dx, ho⟩, hk, hsl, hne⟩, k1, k2⟩ := h
    refine ⟨_, (pss_cons (ps_if (pt_not (pt_chain op_le op_lt pe_int (pv 1) (pe_callB (call_lnK (K := K) rfl) rfl T.n_len boot_len (pa_cons (pe_get T.cl_History T.na_History_shown (pv 0)) pa_nil)))) (pss_one (ps_rs rfl tkOf T.x_BadPlace T.g_BadPlace)) pss_nil)
      (pss_cons (ps_put T.cl_History T.na_History_spot (pv 0) (pv 1))
      (pss_one (ps_ret (pe_ix (ix_listK (K := K) rfl) (pe_get T.cl_History T.na_History_shown (pv 0)) (pv 1) (fun _ _ => rfl)))))), ?_⟩
    have nps : ls ≠ p := ne_of hsl ho (by intro z; cases z)
    have npk : lk ≠ p := ne_of hk ho (by intro z; cases z)
    walk_at "z"
    refine ite_b (fun h1 => ?_) (fun h1 => ?_)
    · have h1' := of_decide_eq_true h1
      walk_at "z"
      refine ite_b (fun h2 => ?_) (fun h2 => ?_)
      · walk_at "z"
        refine k2 ?_
        simp at h2; omega
      · have h2' : g < ss.length := by simpa using h2
        obtain ⟨j, rfl⟩ := Int.eq_ofNat_of_zero_le h1'
        have hj : j < ss.length := by omega
        walk_at "z"
        refine z_ixL (v := .str ss[j]) (SqL.of (by rw [upd_ne nps]; exact hsl)) (atI_nat (by rw [List.getElem?_map, List.getElem?_eq_getElem hj]; rfl)) ?_
        exact k1 j _ rfl (List.getElem?_eq_getElem hj) _ ⟨⟨dx, by walk_at "h"⟩, by walk_at "h", by walk_at "h", hne⟩ (by walk_at "fr")
    · have h1' := of_decide_eq_false h1
      walk_at "z"
      exact k2 (by omega)
end

theorem sc_History_find : FnScope ["self", "part", "spot", "k"] ["self", "part", "spot"] (defScope s_History_find) := ⟨rfl, rfl, rfl, by decide +kernel, rfl, by decide +kernel, by decide +kernel⟩
section
variable {P : Program} {w : World} {K : PySem.W.Frag} {mg : Str → Option Value} {base : Heap}
def sp_History_find (K : PySem.W.Frag) : Sp := fun vs H Q _ => ∃ (p lk ls : Addr) (m s g : Int) (ks ss : List Str) (part : Str), vs = [.ref p, .str part, .int g] ∧ HistAt K H p lk ls m ks ss s ∧ ks.length ≤ 1000000 ∧ -1000000 ≤ g ∧ g ≤ 1000000 ∧ Q (optV (findH ks part g)) H
theorem m_History_find (T : Tx K mg) : Mt P w K mg base (He.ga K "History") "find" 1 ["self", "part", "spot"] (sp_History_find K) := by
  obtain ⟨fd, F⟩ := T.c.d.def_ 19 (d := d_History_find) rfl
  refine ⟨_, fd, F.ok (CX := L2.CX P w) sc_History_find (fun vs H Q E h => ?len) (fun cdv A outer s H vs Q E hr h => ?body), T.me_History_find, T.cl_History, F.bindsN fun _ _ _ _ _ _ us hl => match us, hl with | [_, _, _], _ => rfl⟩
  case len => obtain ⟨p, lk, ls, m, s0, g, ks, ss, part, rfl, ⟨⟨dx, ho⟩, hk, hsl, hne⟩, hn, g1, g2, k⟩ := h; rfl
  case body =>
    obtain ⟨p, lk, ls, m, s0, g, ks, ss, part, rfl, ⟨⟨dx, ho⟩, hk, hsl, hne⟩, hn, g1, g2, k⟩ := h
    refine ⟨_, (pss_cons (ps_for passOf rfl (pi_range3 rfl T.n_range (pa_cons (pe_callB (call_mn rfl) rfl T.n_min (by decide +kernel) (pa_cons (pv 2) (pa_cons (pe_op op_sub (pe_callB (call_lnK (K := K) rfl) rfl T.n_len boot_len (pa_cons (pe_get T.cl_History T.na_History_kept (pv 0)) pa_nil)) pe_int) pa_nil))) (pa_cons (pe_un un_neg pe_int) (pa_cons (pe_un un_neg pe_int) pa_nil)))) (pg_name (i := 3) sc_History_find.nd rfl (Or.inl rfl)) (pss_one (ps_if (pt_cmpR op_inStr (pv 1) (pe_ix (ix_listK (K := K) rfl) (pe_get T.cl_History T.na_History_kept (pv 0)) (pv 3) (fun _ _ => rfl)) rfl) (pss_one (ps_ret (pv 3))) pss_nil)))
      (pss_one (ps_ret pe_non))), ?_⟩
    walk_at "z"
    have hnl : ((ks.map V.str).length : Int) = ks.length := by rw [List.length_map]
    obtain ⟨K0, eK⟩ : ∃ K0 : Int, K0 = (if ((ks.map V.str).length : Int) - 1 < g then ((ks.map V.str).length : Int) - 1 else g) := ⟨_, rfl⟩
    rw [← eK]
    have b1 : K0 ≤ g ∧ K0 ≤ ks.length - 1 ∧ (K0 = g ∨ K0 = ks.length - 1) := by
      rw [hnl] at eK
      split at eK <;> omega
    refine z_rng3e (RgC.neg (by omega) (by omega) (by decide) (by decide)) ?_
    refine fg_rangeC (fun i σ H' => H' = H ∧ (∃ v, σ = [some (.ref p), some (.str part), some (.int g), v]) ∧ ∀ j : Nat, K0 - i < j → j < ks.length → hitH ks part g j = false) ⟨rfl, ⟨none, rfl⟩, ?_⟩ ?_ ?_
    · intro j h1 h2
      unfold hitH
      rw [decide_eq_false (by omega)]; rfl
    · rintro i σ H' hi ⟨rfl, ⟨v, rfl⟩, hno⟩
      have hi' : (i : Int) < K0 + 1 := by omega
      obtain ⟨j, ej⟩ := Int.eq_ofNat_of_zero_le (show 0 ≤ K0 - i by omega)
      have hj : j < ks.length := by omega
      have ek : K0 + (i : Nat) * -1 = (j : Int) := by omega
      have eg : ks.getD j "" = ks[j] := by rw [List.getD_eq_getElem?_getD, List.getElem?_eq_getElem hj]; rfl
      rw [ek]
      walk_at "z"
      refine z_ixL (v := .str ks[j]) (SqL.of hk) (atI_nat (by rw [List.getElem?_map, List.getElem?_eq_getElem hj]; rfl)) ?_
      walk_at "z"
      refine ite_b (fun h => ?_) (fun h => ?_)
      · walk_at "z"
        have : findH ks part g = some j := last_filter hj (by unfold hitH inS; rw [eg, h, decide_eq_true (by omega)]; rfl) fun j' a b => hno j' (by omega) b
        rw [this] at k
        exact k
      · walk_at "z"
        refine ⟨rfl, ⟨_, rfl⟩, fun j' a b => ?_⟩
        by_cases e : j' = j
        · subst e
          unfold hitH inS
          rw [eg, h, Bool.and_false]
        · exact hno j' (by omega) b
    · rintro σ H' ⟨rfl, ⟨v, rfl⟩, hno⟩
      walk_at "z"
      have : findH ks part g = none := none_filter fun j hj => hno j (by omega) hj
      rw [this] at k
      exact k
end

theorem sc_Line_text : FnScope ["self"] ["self"] (defScope s_Line_text) := ⟨rfl, rfl, rfl, by decide +kernel, rfl, by decide +kernel, by decide +kernel⟩
section
variable {P : Program} {w : World} {K : PySem.W.Frag} {mg : Str → Option Value} {base : Heap}
def sp_Line_text (K : PySem.W.Frag) : Sp := fun vs H Q _ => ∃ (p lb ll : Addr) (L : LineS), vs = [.ref p] ∧ LineAt K H p lb ll L ∧ Q (.str L.now) H
theorem m_Line_text (T : Tx K mg) : Mt P w K mg base (He.ga K "Line") "text" 1 ["self"] (sp_Line_text K) := by
  obtain ⟨fd, F⟩ := T.c.d.def_ 21 (d := d_Line_text) rfl
  refine ⟨_, fd, F.ok (CX := L2.CX P w) sc_Line_text (fun vs H Q E h => ?len) (fun cdv A outer s H vs Q E hr h => ?body), T.me_Line_text, T.cl_Line, F.bindsN fun _ _ _ _ _ _ us hl => match us, hl with | [_], _ => rfl⟩
  case len => obtain ⟨p, lb, ll, L, rfl, ⟨⟨dx, ho⟩, _⟩, k⟩ := h; rfl
  case body =>
    obtain ⟨p, lb, ll, L, rfl, ⟨⟨dx, ho⟩, _⟩, k⟩ := h
    refine ⟨_, (pss_one (ps_ret (pe_get T.cl_Line T.na_Line_now (pv 0)))), ?_⟩
    walk_at "z"
    exact k
end

theorem sc_Line_at : FnScope ["self"] ["self"] (defScope s_Line_at) := ⟨rfl, rfl, rfl, by decide +kernel, rfl, by decide +kernel, by decide +kernel⟩
section
variable {P : Program} {w : World} {K : PySem.W.Frag} {mg : Str → Option Value} {base : Heap}
def sp_Line_at (K : PySem.W.Frag) : Sp := fun vs H Q _ => ∃ (p lb ll : Addr) (L : LineS), vs = [.ref p] ∧ LineAt K H p lb ll L ∧ Q (.int L.caret) H
theorem m_Line_at (T : Tx K mg) : Mt P w K mg base (He.ga K "Line") "at" 1 ["self"] (sp_Line_at K) := by
  obtain ⟨fd, F⟩ := T.c.d.def_ 22 (d := d_Line_at) rfl
  refine ⟨_, fd, F.ok (CX := L2.CX P w) sc_Line_at (fun vs H Q E h => ?len) (fun cdv A outer s H vs Q E hr h => ?body), T.me_Line_at, T.cl_Line, F.bindsN fun _ _ _ _ _ _ us hl => match us, hl with | [_], _ => rfl⟩
  case len => obtain ⟨p, lb, ll, L, rfl, ⟨⟨dx, ho⟩, _⟩, k⟩ := h; rfl
  case body =>
    obtain ⟨p, lb, ll, L, rfl, ⟨⟨dx, ho⟩, _⟩, k⟩ := h
    refine ⟨_, (pss_one (ps_ret (pe_get T.cl_Line T.na_Line_caret (pv 0)))), ?_⟩
    walk_at "z"
    exact k
end

theorem sc_Line_marked : FnScope ["self"] ["self"] (defScope s_Line_marked) := ⟨rfl, rfl, rfl, by decide +kernel, rfl, by decide +kernel, by decide +kernel⟩
section
variable {P : Program} {w : World} {K : PySem.W.Frag} {mg : Str → Option Value} {base : Heap}
def sp_Line_marked (K : PySem.W.Frag) : Sp := fun vs H Q _ => ∃ (p lb ll : Addr) (L : LineS), vs = [.ref p] ∧ LineAt K H p lb ll L ∧ Q (.int L.mark) H
theorem m_Line_marked (T : Tx K mg) : Mt P w K mg base (He.ga K "Line") "marked" 1 ["self"] (sp_Line_marked K) := by
  obtain ⟨fd, F⟩ := T.c.d.def_ 23 (d := d_Line_marked) rfl
  refine ⟨_, fd, F.ok (CX := L2.CX P w) sc_Line_marked (fun vs H Q E h => ?len) (fun cdv A outer s H vs Q E hr h => ?body), T.me_Line_marked, T.cl_Line, F.bindsN fun _ _ _ _ _ _ us hl => match us, hl with | [_], _ => rfl⟩
  case len => obtain ⟨p, lb, ll, L, rfl, ⟨⟨dx, ho⟩, _⟩, k⟩ := h; rfl
  case body =>
    obtain ⟨p, lb, ll, L, rfl, ⟨⟨dx, ho⟩, _⟩, k⟩ := h
    refine ⟨_, (pss_one (ps_ret (pe_get T.cl_Line T.na_Line_mark (pv 0)))), ?_⟩
    walk_at "z"
    exact k
end

theorem sc_Line_rest : FnScope ["self"] ["self"] (defScope s_Line_rest) := ⟨rfl, rfl, rfl, by decide +kernel, rfl, by decide +kernel, by decide +kernel⟩
section
variable {P : Program} {w : World} {K : PySem.W.Frag} {mg : Str → Option Value} {base : Heap}
def sp_Line_rest (K : PySem.W.Frag) : Sp := fun vs H Q _ => ∃ (p lb ll : Addr) (L : LineS), vs = [.ref p] ∧ LineAt K H p lb ll L ∧ ∀ H', LineAt K H' p lb ll L.rest → Fr [p] H H' → Q .non H'
theorem m_Line_rest (T : Tx K mg) : Mt P w K mg base (He.ga K "Line") "rest" 1 ["self"] (sp_Line_rest K) := by
  obtain ⟨fd, F⟩ := T.c.d.def_ 25 (d := d_Line_rest) rfl
  refine ⟨_, fd, F.ok (CX := L2.CX P w) sc_Line_rest (fun vs H Q E h => ?len) (fun cdv A outer s H vs Q E hr h => ?body), T.me_Line_rest, T.cl_Line, F.bindsN fun _ _ _ _ _ _ us hl => match us, hl with | [_], _ => rfl⟩
  case len => obtain ⟨p, lb, ll, L, rfl, R, k⟩ := h; rfl
  case body =>
    obtain ⟨p, lb, ll, L, rfl, R, k⟩ := h
    refine ⟨_, (pss_one (ps_put T.cl_Line T.na_Line_run (pv 0) pe_int)), ?_⟩
    obtain ⟨⟨dx, ho⟩, hb, hll, hne⟩ := id R
    obtain ⟨n1, n2⟩ := R.nes
    walk_at "z"
    have f : Fr [p] H (upd H p (.ins (He.ga K "Line") dx (putF "run" (.int 0) (lineF L.now L.caret L.mark lb ll L.run)))) := by walk_at "fr"
    exact k _ ⟨⟨dx, by walk_at "h"⟩, hb.fr f (.cons (nt_ins ho) nt_nil) (not_mem1 n1.symm), hll.fr f (.cons (nt_ins ho) nt_nil) (not_mem1 n2.symm), hne⟩ f
end

theorem sc_Line_picture : FnScope ["self"] ["self"] (defScope s_Line_picture) := ⟨rfl, rfl, rfl, by decide +kernel, rfl, by decide +kernel, by decide +kernel⟩
section
variable {P : Program} {w : World} {K : PySem.W.Frag} {mg : Str → Option Value} {base : Heap}
def sp_Line_picture (K : PySem.W.Frag) : Sp := fun vs H Q _ => ∃ (p lb ll : Addr) (L : LineS), vs = [.ref p] ∧ LineAt K H p lb ll L ∧ ∀ r, H r = none → Q (.ref r) (upd H r (.tup [.str L.now, .int L.caret, .int L.mark]))
theorem m_Line_picture (T : Tx K mg) : Mt P w K mg base (He.ga K "Line") "picture" 1 ["self"] (sp_Line_picture K) := by
  obtain ⟨fd, F⟩ := T.c.d.def_ 27 (d := d_Line_picture) rfl
  refine ⟨_, fd, F.ok (CX := L2.CX P w) sc_Line_picture (fun vs H Q E h => ?len) (fun cdv A outer s H vs Q E hr h => ?body), T.me_Line_picture, T.cl_Line, F.bindsN fun _ _ _ _ _ _ us hl => match us, hl with | [_], _ => rfl⟩
  case len => obtain ⟨p, lb, ll, L, rfl, ⟨⟨dx, ho⟩, _⟩, k⟩ := h; rfl
  case body =>
    obtain ⟨p, lb, ll, L, rfl, ⟨⟨dx, ho⟩, _⟩, k⟩ := h
    refine ⟨_, (pss_one (ps_ret (pe_tup (pa_cons (pe_get T.cl_Line T.na_Line_now (pv 0)) (pa_cons (pe_get T.cl_Line T.na_Line_caret (pv 0)) (pa_cons (pe_get T.cl_Line T.na_Line_mark (pv 0)) pa_nil)))))), ?_⟩
    walk_at "z"
    exact k
end

theorem sc_Line_show : FnScope ["self", "picture"] ["self", "picture"] (defScope s_Line_show) := ⟨rfl, rfl, rfl, by decide +kernel, rfl, by decide +kernel, by decide +kernel⟩
section
variable {P : Program} {w : World} {K : PySem.W.Frag} {mg : Str → Option Value} {base : Heap}
def sp_Line_show (K : PySem.W.Frag) : Sp := fun vs H Q _ => ∃ (p lb ll r : Addr) (L : LineS) (P : Pic), vs = [.ref p, .ref r] ∧ LineAt K H p lb ll L ∧ PicAt H r P ∧ ∀ H', LineAt K H' p lb ll (L.show_ P) → Fr [p] H H' → Q .non H'
theorem m_Line_show (T : Tx K mg) : Mt P w K mg base (He.ga K "Line") "show" 1 ["self", "picture"] (sp_Line_show K) := by
  obtain ⟨fd, F⟩ := T.c.d.def_ 28 (d := d_Line_show) rfl
  refine ⟨_, fd, F.ok (CX := L2.CX P w) sc_Line_show (fun vs H Q E h => ?len) (fun cdv A outer s H vs Q E hr h => ?body), T.me_Line_show, T.cl_Line, F.bindsN fun _ _ _ _ _ _ us hl => match us, hl with | [_, _], _ => rfl⟩
  case len => obtain ⟨p, lb, ll, r, L, P, rfl, R, hP, k⟩ := h; rfl
  case body =>
    obtain ⟨p, lb, ll, r, L, P, rfl, R, hP, k⟩ := h
    refine ⟨_, (pss_one (ps_asg (pv 1) (pg_tupK (K := K) (n := 3) rfl rfl (pgs_cons (pg_att T.cl_Line T.na_Line_now (pv 0)) (pgs_cons (pg_att T.cl_Line T.na_Line_caret (pv 0)) (pgs_cons (pg_att T.cl_Line T.na_Line_mark (pv 0)) pgs_nil)))))), ?_⟩
    obtain ⟨⟨dx, ho⟩, hb, hll, hne⟩ := id R
    obtain ⟨n1, n2⟩ := R.nes
    have hP' : H r = some (.tup [.str P.txt, .int P.at_, .int P.mrk]) := hP
    walk_at "z"
    have f : Fr [p] H (upd (upd (upd H p (.ins (He.ga K "Line") dx (putF "now" (.str P.txt) (lineF L.now L.caret L.mark lb ll L.run)))) p (.ins (He.ga K "Line") dx (putF "caret" (.int P.at_) (putF "now" (.str P.txt) (lineF L.now L.caret L.mark lb ll L.run))))) p (.ins (He.ga K "Line") dx (putF "mark" (.int P.mrk) (putF "caret" (.int P.at_) (putF "now" (.str P.txt) (lineF L.now L.caret L.mark lb ll L.run)))))) := by walk_at "fr"
    exact k _ ⟨⟨dx, by walk_at "h"⟩, hb.fr f (.cons (nt_ins ho) nt_nil) (not_mem1 n1.symm), hll.fr f (.cons (nt_ins ho) nt_nil) (not_mem1 n2.symm), hne⟩ f
end

theorem sc_Line_replace : FnScope ["self", "first", "last", "new", "caret"] ["self", "first", "last", "new", "caret"] (defScope s_Line_replace) := ⟨rfl, rfl, rfl, by decide +kernel, rfl, by decide +kernel, by decide +kernel⟩
section
variable {P : Program} {w : World} {K : PySem.W.Frag} {mg : Str → Option Value} {base : Heap}
def sp_Line_replace (K : PySem.W.Frag) : Sp := fun vs H Q _ => ∃ (p lb ll : Addr) (L : LineS) (f l c : Int) (new : Str), vs = [.ref p, .int f, .int l, .str new, .int c] ∧ LineAt K H p lb ll L ∧ L.now.length ≤ 400 ∧ new.length ≤ 1000 ∧ 0 ≤ f ∧ 0 ≤ l ∧ ∀ H', LineAt K H' p lb ll (L.replace f l new c) → Fr [p] H H' → Q .non H'
theorem m_Line_replace (T : Tx K mg) : Mt P w K mg base (He.ga K "Line") "replace" 1 ["self", "first", "last", "new", "caret"] (sp_Line_replace K) := by
  obtain ⟨fd, F⟩ := T.c.d.def_ 31 (d := d_Line_replace) rfl
  refine ⟨_, fd, F.ok (CX := L2.CX P w) sc_Line_replace (fun vs H Q E h => ?len) (fun cdv A outer s H vs Q E hr h => ?body), T.me_Line_replace, T.cl_Line, F.bindsN fun _ _ _ _ _ _ us hl => match us, hl with | [_, _, _, _, _], _ => rfl⟩
  case len => obtain ⟨p, lb, ll, L, f, l, c, new, rfl, R, hl, hn, hf, hl0, k⟩ := h; rfl
  case body =>
    obtain ⟨p, lb, ll, L, f, l, c, new, rfl, R, hl, hn, hf, hl0, k⟩ := h
    refine ⟨_, (pss_cons (ps_put T.cl_Line T.na_Line_now (pv 0) (pe_op op_addS (pe_op op_addS (pe_slice sl_str (pe_get T.cl_Line T.na_Line_now (pv 0)) po_none (po_some (pv 1))) (pv 3)) (pe_slice sl_str (pe_get T.cl_Line T.na_Line_now (pv 0)) (po_some (pv 2)) po_none)))
      (pss_cons (ps_put T.cl_Line T.na_Line_caret (pv 0) (pv 4))
      (pss_one (ps_if (PW.pt (pw_and (pt_cmpR op_ge (pe_get T.cl_Line T.na_Line_mark (pv 0)) (pv 2) (nomark _)) (pw_and1 (pt_cmpR op_gt (pe_get T.cl_Line T.na_Line_mark (pv 0)) (pv 1) (nomark _))))) (pss_one (ps_put T.cl_Line T.na_Line_mark (pv 0) (pe_op op_add (pe_op op_sub (pe_get T.cl_Line T.na_Line_mark (pv 0)) (pe_op op_sub (pv 2) (pv 1))) (pe_callB (call_lnK (K := K) rfl) rfl T.n_len boot_len (pa_cons (pv 3) pa_nil))))) (pss_one (ps_if (pt_cmpR op_gt (pe_get T.cl_Line T.na_Line_mark (pv 0)) (pv 1) (nomark _)) (pss_one (ps_put T.cl_Line T.na_Line_mark (pv 0) (pe_op op_add (pv 1) (pe_callB (call_lnK (K := K) rfl) rfl T.n_len boot_len (pa_cons (pv 3) pa_nil))))) pss_nil)))))), ?_⟩
    obtain ⟨⟨dx, ho⟩, hb, hll, hne⟩ := id R
    obtain ⟨n1, n2⟩ := R.nes
    have fin : ∀ (H' : Hp) (m : Int), Fr [p] H H' → (∃ dx, H' p = some (.ins (He.ga K "Line") dx (lineF (LineS.spliced L.now f l new) c m lb ll L.run))) → m = LineS.newMark L.mark f l new.length → Q .non H' := fun H' m fr o e => by
      subst e
      exact k H' ⟨o, hb.fr fr (.cons (nt_ins ho) nt_nil) (not_mem1 n1.symm), hll.fr fr (.cons (nt_ins ho) nt_nil) (not_mem1 n2.symm), hne⟩ fr
    have e1 : cutS L.now none (some f) = S ((tl L.now).take f.toNat) := by rw [cutS_eq, cutL_to _ hf]
    have e2 : cutS L.now (some l) none = S ((tl L.now).drop l.toNat) := by rw [cutS_eq, cutL_from _ hl0]
    have b1 : (S ((tl L.now).take f.toNat)).length ≤ 400 := by rw [len_S, List.length_take, ← len_tl]; omega
    have b2 : (S ((tl L.now).drop l.toNat)).length ≤ 400 := by rw [len_S, List.length_drop, ← len_tl]; omega
    have e3 : S ((tl L.now).take f.toNat) ++ new ++ S ((tl L.now).drop l.toNat) = LineS.spliced L.now f l new := str_ext (by rw [tl_app, tl_app]; rfl)
    walk_at "z"
    rw [e1]
    walk_at "z"
    rw [e2]
    walk_at "z"
    rw [e3]
    refine ite_b (fun h1 => ?_) (fun h1 => ?_)
    · have h1' := of_decide_eq_true h1
      walk_at "z"
      refine ite_b (fun h2 => ?_) (fun h2 => ?_)
      · have h2' := of_decide_eq_true h2
        walk_at "z"
        exact fin _ (L.mark - (l - f) + new.length) (by walk_at "fr") ⟨dx, by walk_at "h"⟩ (by unfold LineS.newMark; rw [if_pos ⟨h1', h2'⟩])
      · have h2' := of_decide_eq_false h2
        walk_at "z"
        exact fin _ L.mark (by walk_at "fr") ⟨dx, by walk_at "h"⟩ (by unfold LineS.newMark; rw [if_neg (fun z => h2' z.2), if_neg h2'])
    · have h1' := of_decide_eq_false h1
      walk_at "z"
      refine ite_b (fun h2 => ?_) (fun h2 => ?_)
      · have h2' := of_decide_eq_true h2
        walk_at "z"
        exact fin _ (f + new.length) (by walk_at "fr") ⟨dx, by walk_at "h"⟩ (by unfold LineS.newMark; rw [if_neg (fun z => h1' z.1), if_pos h2'])
      · have h2' := of_decide_eq_false h2
        walk_at "z"
        exact fin _ L.mark (by walk_at "fr") ⟨dx, by walk_at "h"⟩ (by unfold LineS.newMark; rw [if_neg (fun z => h1' z.1), if_neg h2'])
end

theorem sc_Ring_init : FnScope ["self", "most"] ["self", "most"] (defScope s_Ring_init) := ⟨rfl, rfl, rfl, by decide +kernel, rfl, by decide +kernel, by decide +kernel⟩
section
variable {P : Program} {w : World} {K : PySem.W.Frag} {mg : Str → Option Value} {base : Heap}
def sp_Ring_init (K : PySem.W.Frag) : Sp := fun vs H Q E => ∃ (p dx : Addr) (m : Int), vs = [.ref p, .int m] ∧ H p = some (.ins (He.ga K "Ring") dx []) ∧
  (1 ≤ m → m ≤ 20 → ∀ H' l, H l = none → RingAt K H' p l m [] 0 → Fr [p] H H' → Q .non H') ∧
  (¬ (1 ≤ m ∧ m ≤ 20) → E (.ref (He.ga K "BadSize")) none H)
theorem mk_Ring (T : Tx K mg) : Mkr P w K mg base "Ring" (He.ga K "Ring") 1 ["self", "most"] (sp_Ring_init K) := by
  obtain ⟨fd, F⟩ := T.c.d.def_ 37 (d := d_Ring_init) rfl
  refine ⟨_, fd, F.ok (CX := L2.CX P w) sc_Ring_init (fun vs H Q E h => ?len) (fun cdv A outer s H vs Q E hr h => ?body), T.mr_Ring, T.g_Ring, F.bindsN fun _ _ _ _ _ _ us hl => match us, hl with | [_, _], _ => rfl⟩
  case len => obtain ⟨p, dx, m, rfl, hp, k1, k2⟩ := h; rfl
  case body =>
    obtain ⟨p, dx, m, rfl, hp, k1, k2⟩ := h
    refine ⟨_, (pss_cons (ps_if (pt_not (pt_chain op_le op_le pe_int (pv 1) (pe_gcon T.c_MOST_RING))) (pss_one (ps_rs rfl tkOf T.x_BadSize T.g_BadSize)) pss_nil)
      (pss_cons (ps_put T.cl_Ring T.na_Ring_most (pv 0) (pv 1))
      (pss_cons (ps_put T.cl_Ring T.na_Ring_texts (pv 0) (pe_lst pa_nil))
      (pss_one (ps_put T.cl_Ring T.na_Ring_spot (pv 0) pe_int))))), ?_⟩
    walk_at "z"
    refine ite_b (fun h1 => ?_) (fun h1 => ?_)
    · have h1' := of_decide_eq_true h1
      walk_at "z"
      refine ite_b (fun h2 => ?_) (fun h2 => ?_)
      · walk_at "z"
        exact k2 (by simp at h2; omega)
      · have h2' : m ≤ 20 := by simpa using h2
        walk_at "z"
        intro l hl
        have hpl : p ≠ l := by
          obtain ⟨a1, a2⟩ := un_fresh hl
          exact a1.symm
        walk_at "z"
        exact k1 h1' h2' _ l (un_fresh hl).2 ⟨⟨dx, by walk_at "h"⟩, by walk_at "h"⟩ (by walk_at "fr")
    · have h1' := of_decide_eq_false h1
      walk_at "z"
      exact k2 (by omega)
end

theorem sc_Ring_meant : FnScope ["self"] ["self"] (defScope s_Ring_meant) := ⟨rfl, rfl, rfl, by decide +kernel, rfl, by decide +kernel, by decide +kernel⟩
section
variable {P : Program} {w : World} {K : PySem.W.Frag} {mg : Str → Option Value} {base : Heap}
def meantR (ts : List Str) (s : Int) : Str := ts.getD s.toNat ""
def sp_Ring_meant (K : PySem.W.Frag) : Sp := fun vs H Q _ => ∃ (p l : Addr) (m s : Int) (ts : List Str), vs = [.ref p] ∧ RingAt K H p l m ts s ∧ 0 ≤ s ∧ (ts = [] ∨ s < ts.length) ∧ Q (.str (meantR ts s)) H
theorem m_Ring_meant (T : Tx K mg) : Mt P w K mg base (He.ga K "Ring") "meant" 1 ["self"] (sp_Ring_meant K) := by
  obtain ⟨fd, F⟩ := T.c.d.def_ 40 (d := d_Ring_meant) rfl
  refine ⟨_, fd, F.ok (CX := L2.CX P w) sc_Ring_meant (fun vs H Q E h => ?len) (fun cdv A outer s H vs Q E hr h => ?body), T.me_Ring_meant, T.cl_Ring, F.bindsN fun _ _ _ _ _ _ us hl => match us, hl with | [_], _ => rfl⟩
  case len => obtain ⟨p, l, m, s0, ts, rfl, ⟨⟨dx, ho⟩, hl⟩, hs, ht, k⟩ := h; rfl
  case body =>
    obtain ⟨p, l, m, s0, ts, rfl, ⟨⟨dx, ho⟩, hl⟩, hs, ht, k⟩ := h
    refine ⟨_, (pss_one (ps_ret (pe_ifExp (pt_trK (K := K) rfl (pe_get T.cl_Ring T.na_Ring_texts (pv 0))) (pe_ix (ix_listK (K := K) rfl) (pe_get T.cl_Ring T.na_Ring_texts (pv 0)) (pe_get T.cl_Ring T.na_Ring_spot (pv 0)) (fun _ _ => rfl)) pe_str))), ?_⟩
    walk_at "z"
    cases ts with
    | nil =>
      refine iteF ?_
      walk_at "z"
      exact k
    | cons t r =>
      refine iteT ?_
      have hs2 : s0 < (t :: r).length := by
        rcases ht with z | z
        · cases z
        · exact z
      obtain ⟨j, rfl⟩ := Int.eq_ofNat_of_zero_le hs
      have hj : j < (t :: r).length := by omega
      have e : ((t :: r).map V.str)[j]? = some (V.str (meantR (t :: r) (j : Int))) := by
        rw [List.getElem?_map, List.getElem?_eq_getElem hj]
        unfold meantR
        rw [Int.toNat_natCast, List.getD_eq_getElem?_getD, List.getElem?_eq_getElem hj]; rfl
      walk_at "z"
      exact z_ixL (SqL.of hl) (atI_nat e) k
end

theorem sc_Ring_turn : FnScope ["self"] ["self"] (defScope s_Ring_turn) := ⟨rfl, rfl, rfl, by decide +kernel, rfl, by decide +kernel, by decide +kernel⟩
section
variable {P : Program} {w : World} {K : PySem.W.Frag} {mg : Str → Option Value} {base : Heap}
def turnR (ts : List Str) (s : Int) : Int := if ts = [] then s else (s + 1) % (ts.length : Int)
def sp_Ring_turn (K : PySem.W.Frag) : Sp := fun vs H Q _ => ∃ (p l : Addr) (m s : Int) (ts : List Str), vs = [.ref p] ∧ RingAt K H p l m ts s ∧ ∀ H', RingAt K H' p l m ts (turnR ts s) → Fr [p] H H' → Q .non H'
theorem m_Ring_turn (T : Tx K mg) : Mt P w K mg base (He.ga K "Ring") "turn" 1 ["self"] (sp_Ring_turn K) := by
  obtain ⟨fd, F⟩ := T.c.d.def_ 41 (d := d_Ring_turn) rfl
  refine ⟨_, fd, F.ok (CX := L2.CX P w) sc_Ring_turn (fun vs H Q E h => ?len) (fun cdv A outer s H vs Q E hr h => ?body), T.me_Ring_turn, T.cl_Ring, F.bindsN fun _ _ _ _ _ _ us hl => match us, hl with | [_], _ => rfl⟩
  case len => obtain ⟨p, l, m, s0, ts, rfl, ⟨⟨dx, ho⟩, hl⟩, k⟩ := h; rfl
  case body =>
    obtain ⟨p, l, m, s0, ts, rfl, ⟨⟨dx, ho⟩, hl⟩, k⟩ := h
    refine ⟨_, (pss_one (ps_if (pt_trK (K := K) rfl (pe_get T.cl_Ring T.na_Ring_texts (pv 0))) (pss_one (ps_put T.cl_Ring T.na_Ring_spot (pv 0) (pe_op op_mod (pe_op op_add (pe_get T.cl_Ring T.na_Ring_spot (pv 0)) pe_int) (pe_callB (call_lnK (K := K) rfl) rfl T.n_len boot_len (pa_cons (pe_get T.cl_Ring T.na_Ring_texts (pv 0)) pa_nil))))) pss_nil)), ?_⟩
    have npl : l ≠ p := ne_of hl ho (by intro z; cases z)
    walk_at "z"
    cases ts with
    | nil =>
      refine iteF ?_
      walk_at "z"
      exact k _ ⟨⟨dx, ho⟩, hl⟩ Fr.refl
    | cons t r =>
      refine iteT ?_
      walk_at "z"
      refine z_i (by simp) ?_
      walk_at "z"
      refine k _ ⟨⟨dx, ?_⟩, by walk_at "h"⟩ (by walk_at "fr")
      rw [upd_same, turnR, if_neg (by simp), List.length_map]; rfl
end

theorem sc_Ring_newest : FnScope ["self"] ["self"] (defScope s_Ring_newest) := ⟨rfl, rfl, rfl, by decide +kernel, rfl, by decide +kernel, by decide +kernel⟩
section
variable {P : Program} {w : World} {K : PySem.W.Frag} {mg : Str → Option Value} {base : Heap}
def sp_Ring_newest (K : PySem.W.Frag) : Sp := fun vs H Q _ => ∃ (p l : Addr) (m s : Int) (ts : List Str), vs = [.ref p] ∧ RingAt K H p l m ts s ∧ ∀ H', RingAt K H' p l m ts 0 → Fr [p] H H' → Q .non H'
theorem m_Ring_newest (T : Tx K mg) : Mt P w K mg base (He.ga K "Ring") "newest" 1 ["self"] (sp_Ring_newest K) := by
  obtain ⟨fd, F⟩ := T.c.d.def_ 42 (d := d_Ring_newest) rfl
  refine ⟨_, fd, F.ok (CX := L2.CX P w) sc_Ring_newest (fun vs H Q E h => ?len) (fun cdv A outer s H vs Q E hr h => ?body), T.me_Ring_newest, T.cl_Ring, F.bindsN fun _ _ _ _ _ _ us hl => match us, hl with | [_], _ => rfl⟩
  case len => obtain ⟨p, l, m, s0, ts, rfl, ⟨⟨dx, ho⟩, hl⟩, k⟩ := h; rfl
  case body =>
    obtain ⟨p, l, m, s0, ts, rfl, ⟨⟨dx, ho⟩, hl⟩, k⟩ := h
    refine ⟨_, (pss_one (ps_put T.cl_Ring T.na_Ring_spot (pv 0) pe_int)), ?_⟩
    have npl : l ≠ p := ne_of hl ho (by intro z; cases z)
    walk_at "z"
    exact k _ ⟨⟨dx, by walk_at "h"⟩, by walk_at "h"⟩ (by walk_at "fr")
end

theorem sc_Window_init : FnScope ["self", "width"] ["self", "width"] (defScope s_Window_init) := ⟨rfl, rfl, rfl, by decide +kernel, rfl, by decide +kernel, by decide +kernel⟩
section
variable {P : Program} {w : World} {K : PySem.W.Frag} {mg : Str → Option Value} {base : Heap}
def sp_Window_init (K : PySem.W.Frag) : Sp := fun vs H Q E => ∃ (p dx : Addr) (w : Int), vs = [.ref p, .int w] ∧ H p = some (.ins (He.ga K "Window") dx []) ∧
  (4 ≤ w → w ≤ 400 → ∀ H', WinAt K H' p w 0 → Fr [p] H H' → Q .non H') ∧ (¬ (4 ≤ w ∧ w ≤ 400) → E (.ref (He.ga K "BadSize")) none H)
theorem mk_Window (T : Tx K mg) : Mkr P w K mg base "Window" (He.ga K "Window") 1 ["self", "width"] (sp_Window_init K) := by
  obtain ⟨fd, F⟩ := T.c.d.def_ 44 (d := d_Window_init) rfl
  refine ⟨_, fd, F.ok (CX := L2.CX P w) sc_Window_init (fun vs H Q E h => ?len) (fun cdv A outer s H vs Q E hr h => ?body), T.mr_Window, T.g_Window, F.bindsN fun _ _ _ _ _ _ us hl => match us, hl with | [_, _], _ => rfl⟩
  case len => obtain ⟨p, dx, w, rfl, hp, k1, k2⟩ := h; rfl
  case body =>
    obtain ⟨p, dx, w, rfl, hp, k1, k2⟩ := h
    refine ⟨_, (pss_cons (ps_if (pt_not (pt_chain op_le op_le (pe_gcon T.c_LEAST) (pv 1) (pe_gcon T.c_MOST))) (pss_one (ps_rs rfl tkOf T.x_BadSize T.g_BadSize)) pss_nil)
      (pss_cons (ps_put T.cl_Window T.na_Window_width (pv 0) (pv 1))
      (pss_one (ps_put T.cl_Window T.na_Window_first (pv 0) pe_int)))), ?_⟩
    walk_at "z"
    refine ite_b (fun h1 => ?_) (fun h1 => ?_)
    · have h1' := of_decide_eq_true h1
      walk_at "z"
      refine ite_b (fun h2 => ?_) (fun h2 => ?_)
      · walk_at "z"
        exact k2 (by simp at h2; omega)
      · have h2' : w ≤ 400 := by simpa using h2
        walk_at "z"
        exact k1 h1' h2' _ ⟨dx, by walk_at "h"⟩ (by walk_at "fr")
    · have h1' := of_decide_eq_false h1
      walk_at "z"
      exact k2 (by omega)
end

theorem sc_Search_init : FnScope ["self", "picture", "spot"] ["self", "picture", "spot"] (defScope s_Search_init) := ⟨rfl, rfl, rfl, by decide +kernel, rfl, by decide +kernel, by decide +kernel⟩
section
variable {P : Program} {w : World} {K : PySem.W.Frag} {mg : Str → Option Value} {base : Heap}
def sp_Search_init (K : PySem.W.Frag) : Sp := fun vs H Q _ => ∃ (p dx r : Addr) (P : Pic) (j : Nat), vs = [.ref p, .ref r, .int (j : Nat)] ∧ H p = some (.ins (He.ga K "Search") dx []) ∧ PicAt H r P ∧ ∀ H' st, H st = none → SrObj K H' p st ⟨P, j, "", [⟨none, false, ""⟩]⟩ → Fr [p] H H' → Q .non H'
theorem mk_Search (T : Tx K mg) : Mkr P w K mg base "Search" (He.ga K "Search") 1 ["self", "picture", "spot"] (sp_Search_init K) := by
  obtain ⟨fd, F⟩ := T.c.d.def_ 47 (d := d_Search_init) rfl
  refine ⟨_, fd, F.ok (CX := L2.CX P w) sc_Search_init (fun vs H Q E h => ?len) (fun cdv A outer s H vs Q E hr h => ?body), T.mr_Search, T.g_Search, F.bindsN fun _ _ _ _ _ _ us hl => match us, hl with | [_, _, _], _ => rfl⟩
  case len => obtain ⟨p, dx, r, P, j, rfl, hp, hP, k⟩ := h; rfl
  case body =>
    obtain ⟨p, dx, r, P, j, rfl, hp, hP, k⟩ := h
    refine ⟨_, (pss_cons (ps_put T.cl_Search T.na_Search_was (pv 0) (pv 1))
      (pss_cons (ps_put T.cl_Search T.na_Search_spot (pv 0) (pv 2))
      (pss_cons (ps_put T.cl_Search T.na_Search_part (pv 0) pe_str)
      (pss_one (ps_put T.cl_Search T.na_Search_trail (pv 0) (pe_lst (pa_cons (pe_tup (pa_cons pe_non (pa_cons pe_bl (pa_cons pe_str pa_nil)))) pa_nil))))))), ?_⟩
    walk_at "z"
    intro r1 hr1
    walk_at "z"
    intro st hst
    have n1 : p ≠ r1 := (un_fresh hr1).1.symm
    obtain ⟨nsr, hst1⟩ := un_fresh hst
    obtain ⟨nsp, hst2⟩ := un_fresh hst1
    have nrp : r ≠ p := ne_of (hP : H r = _) hp (by intro z; cases z)
    have hr0 : H r1 = none := (un_fresh (un_fresh (un_fresh hr1).2).2).2
    have hs0 : H st = none := (un_fresh (un_fresh hst2).2).2
    have nrr : r ≠ r1 := ne_of_none (hP : H r = _) hr0
    have nrs : r ≠ st := ne_of_none (hP : H r = _) hs0
    walk_at "z"
    refine k _ st hs0 ⟨⟨dx, r, by walk_at "h", ?_⟩, ⟨[r1], by walk_at "h", .cons ?_ .nil⟩⟩ (by walk_at "fr")
    · show _ = _
      rw [upd_ne nrp, upd_ne nrs, upd_ne nrr, upd_ne nrp, upd_ne nrp, upd_ne nrp]
      exact hP
    · show _ = _
      walk_at "h"
end

theorem sc_Search_found : FnScope ["self"] ["self"] (defScope s_Search_found) := ⟨rfl, rfl, rfl, by decide +kernel, rfl, by decide +kernel, by decide +kernel⟩
section
variable {P : Program} {w : World} {K : PySem.W.Frag} {mg : Str → Option Value} {base : Heap}
theorem trail_last {H : Hp} {st : Addr} {es : List Ent} (h : TrailAt H st es) (hn : es ≠ []) : ∃ (rs : List Addr) (r : Addr), H st = some (.lst (rs.map V.ref)) ∧ atI (rs.map V.ref) (-1) = some (.ref r) ∧ EntAt H r (es.getLast?.getD ⟨none, false, ""⟩) ∧ rs.length = es.length := by
  obtain ⟨rs, h1, h2⟩ := h
  obtain ⟨es', e, rfl⟩ : ∃ es' e, es = es' ++ [e] := by
    rcases List.eq_nil_or_concat es with z | ⟨l, x, z⟩
    · exact absurd z hn
    · exact ⟨l, x, by rw [z, List.concat_eq_append]⟩
  have hl := paired_len h2
  obtain ⟨rs', r, rfl, h3, h4⟩ := paired_last h2
  refine ⟨_, r, h1, ?_, by simpa using h4, hl⟩
  unfold atI ixN
  simp only [List.map_append, List.map_cons, List.map_nil, List.length_append, List.length_map, List.length_cons, List.length_nil]
  rw [if_neg (by omega), if_pos (by omega)]
  show (List.map V.ref rs' ++ [V.ref r])[(-1 + ((rs'.length + (0 + 1) : Nat) : Int)).toNat]? = _
  rw [show (-1 + ((rs'.length + (0 + 1) : Nat) : Int)).toNat = rs'.length by omega, List.getElem?_append_right (by simp)]
  simp
def sp_Search_found (K : PySem.W.Frag) : Sp := fun vs H Q _ => ∃ (p st : Addr) (q : SrchS), vs = [.ref p] ∧ SrObj K H p st q ∧ q.trail ≠ [] ∧ Q (optV q.last.at_) H
theorem m_Search_found (T : Tx K mg) : Mt P w K mg base (He.ga K "Search") "found" 1 ["self"] (sp_Search_found K) := by
  obtain ⟨fd, F⟩ := T.c.d.def_ 48 (d := d_Search_found) rfl
  refine ⟨_, fd, F.ok (CX := L2.CX P w) sc_Search_found (fun vs H Q E h => ?len) (fun cdv A outer s H vs Q E hr h => ?body), T.me_Search_found, T.cl_Search, F.bindsN fun _ _ _ _ _ _ us hl => match us, hl with | [_], _ => rfl⟩
  case len => obtain ⟨p, st, q, rfl, ⟨⟨dx, r, ho, hP⟩, htr⟩, hne, k⟩ := h; rfl
  case body =>
    obtain ⟨p, st, q, rfl, ⟨⟨dx, r, ho, hP⟩, htr⟩, hne, k⟩ := h
    refine ⟨_, (pss_one (ps_ret (pe_ix (ix_tupK (K := K) rfl) (pe_ix (ix_listK (K := K) rfl) (pe_get T.cl_Search T.na_Search_trail (pv 0)) (pe_un un_neg pe_int) (fun _ _ => rfl)) pe_int (fun _ _ => rfl)))), ?_⟩
    obtain ⟨rs, r1, h1, h2, h3, _⟩ := trail_last htr hne
    walk_at "z"
    refine z_ixL (SqL.of h1) h2 ?_
    walk_at "z"
    exact k
end

theorem sc_Search_is_lost : FnScope ["self"] ["self"] (defScope s_Search_is_lost) := ⟨rfl, rfl, rfl, by decide +kernel, rfl, by decide +kernel, by decide +kernel⟩
section
variable {P : Program} {w : World} {K : PySem.W.Frag} {mg : Str → Option Value} {base : Heap}
def sp_Search_is_lost (K : PySem.W.Frag) : Sp := fun vs H Q _ => ∃ (p st : Addr) (q : SrchS), vs = [.ref p] ∧ SrObj K H p st q ∧ q.trail ≠ [] ∧ Q (.bl q.last.lost) H
theorem m_Search_is_lost (T : Tx K mg) : Mt P w K mg base (He.ga K "Search") "is_lost" 1 ["self"] (sp_Search_is_lost K) := by
  obtain ⟨fd, F⟩ := T.c.d.def_ 49 (d := d_Search_is_lost) rfl
  refine ⟨_, fd, F.ok (CX := L2.CX P w) sc_Search_is_lost (fun vs H Q E h => ?len) (fun cdv A outer s H vs Q E hr h => ?body), T.me_Search_is_lost, T.cl_Search, F.bindsN fun _ _ _ _ _ _ us hl => match us, hl with | [_], _ => rfl⟩
  case len => obtain ⟨p, st, q, rfl, ⟨⟨dx, r, ho, hP⟩, htr⟩, hne, k⟩ := h; rfl
  case body =>
    obtain ⟨p, st, q, rfl, ⟨⟨dx, r, ho, hP⟩, htr⟩, hne, k⟩ := h
    refine ⟨_, (pss_one (ps_ret (pe_ix (ix_tupK (K := K) rfl) (pe_ix (ix_listK (K := K) rfl) (pe_get T.cl_Search T.na_Search_trail (pv 0)) (pe_un un_neg pe_int) (fun _ _ => rfl)) pe_int (fun _ _ => rfl)))), ?_⟩
    obtain ⟨rs, r1, h1, h2, h3, _⟩ := trail_last htr hne
    walk_at "z"
    refine z_ixL (SqL.of h1) h2 ?_
    walk_at "z"
    exact k
end

theorem sc_Search_note : FnScope ["self", "found", "is_new", "old", "entry"] ["self", "found", "is_new"] (defScope s_Search_note) := ⟨rfl, rfl, rfl, by decide +kernel, rfl, by decide +kernel, by decide +kernel⟩
section
variable {P : Program} {w : World} {K : PySem.W.Frag} {mg : Str → Option Value} {base : Heap}
def sp_Search_note (K : PySem.W.Frag) : Sp := fun vs H Q _ => ∃ (p st : Addr) (q : SrchS) (found : Option Nat) (new : Bool), vs = [.ref p, optV found, .bl new] ∧ SrObj K H p st q ∧ q.trail ≠ [] ∧ q.trail.length ≤ 1000000 ∧ ∀ H' st', H st' = none → SrObj K H' p st' (q.note found new) → Fr [p] H H' → Q .non H'
theorem m_Search_note (T : Tx K mg) : Mt P w K mg base (He.ga K "Search") "note" 1 ["self", "found", "is_new"] (sp_Search_note K) := by
  obtain ⟨fd, F⟩ := T.c.d.def_ 51 (d := d_Search_note) rfl
  refine ⟨_, fd, F.ok (CX := L2.CX P w) sc_Search_note (fun vs H Q E h => ?len) (fun cdv A outer s H vs Q E hr h => ?body), T.me_Search_note, T.cl_Search, F.bindsN fun _ _ _ _ _ _ us hl => match us, hl with | [_, _, _], _ => rfl⟩
  case len => obtain ⟨p, st, q, found, new, rfl, R, hne, hl, k⟩ := h; rfl
  case body =>
    obtain ⟨p, st, q, found, new, rfl, R, hne, hl, k⟩ := h
    refine ⟨_, (pss_cons (ps_set (i := 3) sc_Search_note.nd rfl (Or.inl rfl) (pe_ix (ix_listK (K := K) rfl) (pe_get T.cl_Search T.na_Search_trail (pv 0)) (pe_un un_neg pe_int) (fun _ _ => rfl)))
      (Evl.pss_cut (ps_set (i := 4) sc_Search_note.nd rfl (Or.inl rfl) (pe_ifExp (pt_cmpR op_isNon (pv 1) pe_non (nomark _)) (pe_tup (pa_cons (pe_ix (ix_tupK (K := K) rfl) (pv 3) pe_int (fun _ _ => rfl)) (pa_cons pe_bl (pa_cons (pe_ix (ix_tupK (K := K) rfl) (pv 3) pe_int (fun _ _ => rfl)) pa_nil)))) (pe_tup (pa_cons (pv 1) (pa_cons pe_bl (pa_cons (pe_get T.cl_Search T.na_Search_part (pv 0)) pa_nil))))))
      (pss_one (ps_put T.cl_Search T.na_Search_trail (pv 0) (pe_op op_cat (pe_ifExp (pt_val (pv 2)) (pe_get T.cl_Search T.na_Search_trail (pv 0)) (pe_slice (sl_listK (K := K) rfl) (pe_get T.cl_Search T.na_Search_trail (pv 0)) po_none (po_some (pe_un un_neg pe_int)))) (pe_lst (pa_cons (pv 4) pa_nil))))))), ?_⟩
    obtain ⟨⟨dx, r, ho, hP⟩, htr⟩ := id R
    obtain ⟨rs, r1, h1, h2, h3, hrl⟩ := trail_last htr hne
    walk_at "z"
    refine z_ixL (SqL.of h1) h2 ?_
    walk_at "z"
    have eL : SrchS.last q = q.trail.getLast?.getD ⟨none, false, ""⟩ := rfl
    rw [← eL] at h3
    refine z_cut (fun σ' H' => ∃ re, σ' = [some (.ref p), some (optV found), some (.bl new), some (.ref r1), some (.ref re)] ∧ EntAt H' re (q.entry found) ∧ Same H H') ?_ ?_
    · have h3' : H r1 = some (.tup [optV q.last.at_, .bl q.last.lost, .str q.last.part]) := h3
      cases found with
      | none =>
        have eo : optV none = .non := rfl
        rw [eo]
        walk_at "z"
        intro re hre
        exact ⟨re, rfl, upd_same, Same.new (Same.refl _) hre⟩
      | some j =>
        have eo : optV (some j) = .int (j : Nat) := rfl
        rw [eo]
        walk_at "z"
        intro re hre
        exact ⟨re, rfl, upd_same, Same.new (Same.refl _) hre⟩
    rintro σ' H1 ⟨re, rfl, hre, s1⟩
    have ho1 := s1 _ _ ho
    have hst1 := s1 _ _ h1
    obtain ⟨rs0, hst0, hpr⟩ := id htr
    have ers : rs0.map V.ref = rs.map V.ref := by rw [h1] at hst0; injection hst0 with z; injection z with z; exact z.symm
    have hpr1 : Paired (EntAt H1) rs0 q.trail := Paired.mapP hpr fun _ _ z => s1 _ _ z
    rw [← ers] at hst1
    have hl0 : rs0.length ≤ 1000000 := by rw [paired_len hpr]; exact hl
    have fin : ∀ (H2 : Hp) (es : List Ent) (rs2 : List Addr) (l2 : Addr), Same H1 H2 → H2 l2 = none → Paired (EntAt H2) rs2 es → SrObj K (upd (upd H2 l2 (.lst (rs2.map V.ref ++ [.ref re]))) p (.ins (He.ga K "Search") dx (putF "trail" (.ref l2) (srF r q.spot q.part st)))) p l2 { q with trail := es ++ [q.entry found] } ∧ Fr [p] H (upd (upd H2 l2 (.lst (rs2.map V.ref ++ [.ref re]))) p (.ins (He.ga K "Search") dx (putF "trail" (.ref l2) (srF r q.spot q.part st)))) ∧ H l2 = none := by
      intro H2 es rs2 l2 s2 hl2 hp2
      have np : p ≠ l2 := ne_of_none (s2 _ _ ho1) hl2
      have f2 : Fr [p] H2 (upd (upd H2 l2 (.lst (rs2.map V.ref ++ [.ref re]))) p (.ins (He.ga K "Search") dx (putF "trail" (.ref l2) (srF r q.spot q.part st)))) := by walk_at "fr"
      have nt : Nt H2 [p] := .cons (nt_ins (s2 _ _ ho1)) nt_nil
      refine ⟨⟨⟨dx, r, upd_same, ?_⟩, rs2 ++ [re], ?_, ?_⟩, (Fr.same (Same.trans s1 s2)).trans f2, fresh_of (Same.trans s1 s2) hl2⟩
      · exact (hP.same (Same.trans s1 s2)).fr f2 nt
      · rw [upd_ne np.symm, upd_same, List.map_append]; rfl
      · exact paired_snoc (Paired.mapP hp2 fun _ _ z => z.fr f2 nt) (EntAt.fr (show EntAt H2 re _ from s2 _ _ hre) f2 nt)
    cases new with
    | true =>
      walk_at "z"
      intro l1 hl1
      walk_at "z"
      intro l2 hl2
      walk_at "z"
      obtain ⟨g1, g2, g3⟩ := fin (upd H1 l1 (.lst [.ref re])) q.trail rs0 l2 (Same.new (Same.refl _) hl1) hl2 (Paired.mapP hpr1 fun _ _ z => (Same.new (Same.refl H1) hl1) _ _ z)
      exact k _ l2 g3 g1 g2
    | false =>
      walk_at "z"
      intro l0 hl0'
      have ec : cutV (rs0.map V.ref) none (some (-1)) = rs0.dropLast.map V.ref := by rw [cutV_eq, cutL_map, cutL_lastOff]
      rw [ec]
      have hdl : rs0.dropLast.length ≤ 1000000 := by rw [List.length_dropLast]; omega
      walk_at "z"
      intro l1 hl1
      walk_at "z"
      intro l2 hl2
      walk_at "z"
      have s3 : Same H1 (upd (upd H1 l0 (.lst (rs0.dropLast.map V.ref))) l1 (.lst [.ref re])) := by walk_at "sa"
      have hpd : Paired (EntAt H1) rs0.dropLast q.trail.dropLast := by
        clear fin
        obtain ⟨es', e, he⟩ : ∃ es' e, q.trail = es' ++ [e] := by
          rcases List.eq_nil_or_concat q.trail with z | ⟨l, x, z⟩
          · exact absurd z hne
          · exact ⟨l, x, by rw [z, List.concat_eq_append]⟩
        rw [he] at hpr1 ⊢
        obtain ⟨rs', r', rfl, h5, _⟩ := paired_last hpr1
        rw [List.dropLast_concat, List.dropLast_concat]
        exact h5
      obtain ⟨g1, g2, g3⟩ := fin _ q.trail.dropLast rs0.dropLast l2 s3 hl2 (Paired.mapP hpd fun _ _ z => s3 _ _ z)
      exact k _ l2 g3 g1 g2
end

theorem sc_Hand_told : FnScope ["self"] ["self"] (defScope s_Hand_told) := ⟨rfl, rfl, rfl, by decide +kernel, rfl, by decide +kernel, by decide +kernel⟩
section
variable {P : Program} {w : World} {K : PySem.W.Frag} {mg : Str → Option Value} {base : Heap}
def sp_Hand_told (K : PySem.W.Frag) : Sp := fun vs H Q _ => ∃ (p : Addr) (A : HA) (Z : HS), vs = [.ref p] ∧ HandAt K H p A Z ∧ ∀ r, H r = none → Q (.ref r) (upd H r (.lst (Z.ent.map V.str)))
theorem m_Hand_told (T : Tx K mg) : Mt P w K mg base (He.ga K "Hand") "told" 1 ["self"] (sp_Hand_told K) := by
  obtain ⟨fd, F⟩ := T.c.d.def_ 56 (d := d_Hand_told) rfl
  refine ⟨_, fd, F.ok (CX := L2.CX P w) sc_Hand_told (fun vs H Q E h => ?len) (fun cdv A outer s H vs Q E hr h => ?body), T.me_Hand_told, T.cl_Hand, F.bindsN fun _ _ _ _ _ _ us hl => match us, hl with | [_], _ => rfl⟩
  case len => obtain ⟨p, A, Z, rfl, h, k⟩ := h; rfl
  case body =>
    obtain ⟨p, A, Z, rfl, h, k⟩ := h
    refine ⟨_, (pss_one (ps_ret (pe_callTy (call_loK (K := K) rfl) rfl T.n_list (by decide +kernel) (pa_cons (pe_get T.cl_Hand T.na_Hand_entered (pv 0)) pa_nil)))), ?_⟩
    have ho := h.ob
    have he := h.en
    walk_at "z"
    exact k
end

theorem sc_Hand_stop : FnScope ["self"] ["self"] (defScope s_Hand_stop) := ⟨rfl, rfl, rfl, by decide +kernel, rfl, by decide +kernel, by decide +kernel⟩
section
variable {P : Program} {w : World} {K : PySem.W.Frag} {mg : Str → Option Value} {base : Heap}
def sp_Hand_stop (K : PySem.W.Frag) : Sp := fun vs H Q _ => ∃ (p : Addr) (A : HA) (Z : HS), vs = [.ref p] ∧ HandAt K H p A Z ∧ ∀ H' A', HandAt K H' p A' Z.stop → Mv H H' (A.X p) (A'.X p) → Q .non H'
theorem m_Hand_stop (T : Tx K mg) : Mt P w K mg base (He.ga K "Hand") "stop" 1 ["self"] (sp_Hand_stop K) := by
  obtain ⟨fd, F⟩ := T.c.d.def_ 59 (d := d_Hand_stop) rfl
  refine ⟨_, fd, F.ok (CX := L2.CX P w) sc_Hand_stop (fun vs H Q E h => ?len) (fun cdv A outer s H vs Q E hr h => ?body), T.me_Hand_stop, T.cl_Hand, F.bindsN fun _ _ _ _ _ _ us hl => match us, hl with | [_], _ => rfl⟩
  case len => obtain ⟨p, A, Z, rfl, h, k⟩ := h; rfl
  case body =>
    obtain ⟨p, A, Z, rfl, h, k⟩ := h
    refine ⟨_, (pss_one (ps_if (pt_cmpR op_notNon (pe_get T.cl_Hand T.na_Hand_keys_kept (pv 0)) pe_non (nomark _)) (pss_cons (ps_put T.cl_Hand T.na_Hand_macro (pv 0) (pe_get T.cl_Hand T.na_Hand_keys_kept (pv 0)))
      (pss_one (ps_put T.cl_Hand T.na_Hand_keys_kept (pv 0) pe_non))) pss_nil)), ?_⟩
    have ho := h.ob
    cases hs : Z.kept with
    | none =>
      obtain ⟨e1, e2⟩ : KeAt H A.kv A.kfp none := hs ▸ h.ke
      have ez : Z.stop = Z := by unfold HS.stop; rw [hs]
      rw [ez] at k
      walk_at "z"
      rw [e1]
      walk_at "z"
      exact k _ A h Mv.refl
    | some l =>
      obtain ⟨kl, e1, e2, e3⟩ : KeAt H A.kv A.kfp (some l) := hs ▸ h.ke
      have ez : Z.stop = { Z with mac := l, kept := none } := by unfold HS.stop; rw [hs]
      rw [ez] at k
      walk_at "z"
      rw [e1]
      walk_at "z"
      rw [e1]
      walk_at "z"
      have hh := h.put_stop hs e1
      refine k _ { A with ml := kl, kv := .non, kfp := [] } hh ⟨Fr.upd (Fr.upd Fr.refl h.p_mem) h.p_mem, fun y hy => .inl ?_⟩
      obtain ⟨G, hG, hy⟩ := List.mem_flatten.mp hy
      rcases List.mem_or_eq_of_mem_set (i := 7) (l := (A.bs p).set 10 []) (b := [kl]) hG with z | z
      · rcases List.mem_or_eq_of_mem_set z with z | z
        · exact List.mem_flatten.mpr ⟨G, z, hy⟩
        · rw [z] at hy; cases hy
      · rw [z] at hy
        exact List.mem_flatten.mpr ⟨A.kfp, by simp [HA.bs], by rw [e2]; exact hy⟩
end

theorem sc__law_cell : FnScope ["script", "k"] ["script", "k"] (defScope s__law_cell) := ⟨rfl, rfl, rfl, by decide +kernel, rfl, by decide +kernel, by decide +kernel⟩
section
variable {P : Program} {w : World} {K : PySem.W.Frag} {mg : Str → Option Value} {base : Heap}
def sp_law_cell (K : PySem.W.Frag) : Sp := fun vs H Q _ => ∃ (a : Addr) (ns : List Int) (k : Int), vs = [.ref a, .int k] ∧ Scr K H a ns ∧ ∀ z : Int, Q (.int z) H
theorem f__law_cell (T : Tx K mg) : Fn P w K mg base "_law_cell" 1 ["script", "k"] (sp_law_cell K) := by
  obtain ⟨fd, F⟩ := T.c.d.def_ 81 (d := d__law_cell) rfl
  refine ⟨_, fd, F.ok (CX := L2.CX P w) sc__law_cell (fun vs H Q E h => ?len) (fun cdv A outer s H vs Q E hr h => ?body), T.g__law_cell, F.kp, F.bindsN fun _ _ _ _ _ _ us hl => match us, hl with | [_, _], _ => rfl, FunD.bindsA F fun _ _ _ _ _ _ us hl => match us, hl with | [_, _], _ => rfl⟩
  case len => obtain ⟨a, ns, n, rfl, hs0, k⟩ := h; rfl
  case body =>
    obtain ⟨a, ns, n, rfl, hs0, k⟩ := h
    refine ⟨_, (pss_cons (ps_if (pt_trK (K := K) rfl (pv 0)) (pss_one (ps_ret (pe_ix (ix_listK (K := K) rfl) (pv 0) (pe_op op_mod (pv 1) (pe_callB (call_lnK (K := K) rfl) rfl T.n_len boot_len (pa_cons (pv 0) pa_nil))) (fun _ _ => rfl)))) pss_nil)
      (pss_one (ps_ret pe_int))), ?_⟩
    have hs := hs0.sq
    walk_at "z"
    cases ns with
    | nil =>
      refine iteF ?_
      walk_at "z"
      exact k _
    | cons t r =>
      refine iteT ?_
      walk_at "z"
      have hp : (0 : Int) < (((t :: r).map V.int).length : Nat) := by simp
      refine z_i hp ?_
      have h1 := Int.emod_nonneg n (show (((t :: r).map V.int).length : Int) ≠ 0 by omega)
      have h2 := Int.emod_lt_of_pos n hp
      obtain ⟨j, e⟩ := Int.eq_ofNat_of_zero_le h1
      have hj : j < (t :: r).length := by simp at h2 e ⊢; omega
      refine z_ixL hs (v := .int ((t :: r)[j])) ?_ (k _)
      show atI _ (n % (((t :: r).map V.int).length : Nat)) = _
      rw [e]
      exact atI_nat (by rw [List.getElem?_map, List.getElem?_eq_getElem hj]; rfl)
end

theorem sc__law_letter : FnScope ["text", "at"] ["text", "at"] (defScope s__law_letter) := ⟨rfl, rfl, rfl, by decide +kernel, rfl, by decide +kernel, by decide +kernel⟩
section
variable {P : Program} {w : World} {K : PySem.W.Frag} {mg : Str → Option Value} {base : Heap}
def sp_law_letter (K : PySem.W.Frag) : Sp := fun vs H Q _ => ∃ (x : Str) (a : Int), vs = [.str x, .int a] ∧ okText x = true ∧ Q (.bl (letAt (tl x) a)) H
theorem f__law_letter (T : Tx K mg) : Fn P w K mg base "_law_letter" 1 ["text", "at"] (sp_law_letter K) := by
  obtain ⟨fd, F⟩ := T.c.d.def_ 85 (d := d__law_letter) rfl
  refine ⟨_, fd, F.ok (CX := L2.CX P w) sc__law_letter (fun vs H Q E h => ?len) (fun cdv A outer s H vs Q E hr h => ?body), T.g__law_letter, F.kp, F.bindsN fun _ _ _ _ _ _ us hl => match us, hl with | [_, _], _ => rfl, FunD.bindsA F fun _ _ _ _ _ _ us hl => match us, hl with | [_, _], _ => rfl⟩
  case len => obtain ⟨x, a, rfl, ok, k⟩ := h; rfl
  case body =>
    obtain ⟨x, a, rfl, ok, k⟩ := h
    refine ⟨_, (pss_one (ps_ret (pe_and (pe_chain op_le op_lt pe_int (pv 1) (pe_callB (call_lnK (K := K) rfl) rfl T.n_len boot_len (pa_cons (pv 0) pa_nil))) (pe_one (pe_or (pe_bm0K (K := K) rfl PySem.F.plainAttrs_str PySem.F.slot_str_isalpha PySem.F.type_str_isalpha mt_isalphaN (pe_ix ix_str (pv 0) (pv 1) (fun _ _ => rfl))) (pe_one (pe_cmpR op_inStr (pe_ix ix_str (pv 0) (pv 1) (fun _ _ => rfl)) pe_str rfl))))))), ?_⟩
    have hl := okText_len ok
    have e := len_tl x
    walk_at "z"
    refine ite_b (fun h1 => ?_) (fun h1 => ?_)
    · have h1' := of_decide_eq_true h1
      walk_at "z"
      refine ite_b (fun h2 => ?_) (fun h2 => ?_)
      · have h2' := of_decide_eq_true h2
        obtain ⟨c, c1, c2⟩ := in_get (l := tl x) h1' (by omega)
        walk_at "z"
        refine z_ixS (c := c) (by rw [sizeLine_eq]; omega) c2 ?_
        walk_at "z"
        have ec := isL_alpha c (okc_lt (List.all_eq_true.mp (okText_all ok) c (List.mem_of_getElem? c1)))
        rw [letAt_of h1' c1, ← ec] at k
        refine ite_b (fun h3 => ?_) (fun h3 => ?_)
        · rw [h3] at k
          exact k
        · rw [h3, Bool.false_or] at k
          walk_at "z"
          refine z_ixS (c := c) (by rw [sizeLine_eq]; omega) c2 ?_
          walk_at "z"
          exact k
      · have h2' := of_decide_eq_false h2
        walk_at "z"
        rw [letAt_big (by omega)] at k
        exact k
    · have h1' := of_decide_eq_false h1
      walk_at "z"
      rw [letAt_neg (by omega)] at k
      exact k
end

theorem sc__law_set : FnScope ["state", "first", "last", "new", "caret", "text", "at", "mark"] ["state", "first", "last", "new", "caret"] (defScope s__law_set) := ⟨rfl, rfl, rfl, by decide +kernel, rfl, by decide +kernel, by decide +kernel⟩
section
variable {P : Program} {w : World} {K : PySem.W.Frag} {mg : Str → Option Value} {base : Heap}
def sp_law_set (K : PySem.W.Frag) : Sp := fun vs H Q _ => ∃ (d sb sl : Addr) (kvs : List (Key × V)) (M : LineS) (f l c : Int) (new : Str), vs = [.ref d, .int f, .int l, .str new, .int c] ∧ StAt H d sb sl kvs M ∧ M.now.length ≤ 1000 ∧ new.length ≤ 1000 ∧ 0 ≤ f ∧ f ≤ l ∧ ∀ H' kvs', StAt H' d sb sl kvs' (M.replace f l new c) → Ex stK kvs kvs' → Fr [d] H H' → Q .non H'
theorem f__law_set (T : Tx K mg) : Fn P w K mg base "_law_set" 1 ["state", "first", "last", "new", "caret"] (sp_law_set K) := by
  obtain ⟨fd, F⟩ := T.c.d.def_ 90 (d := d__law_set) rfl
  refine ⟨_, fd, F.ok (CX := L2.CX P w) sc__law_set (fun vs H Q E h => ?len) (fun cdv A outer s H vs Q E hr h => ?body), T.g__law_set, F.kp, F.bindsN fun _ _ _ _ _ _ us hl => match us, hl with | [_, _, _, _, _], _ => rfl, FunD.bindsA F fun _ _ _ _ _ _ us hl => match us, hl with | [_, _, _, _, _], _ => rfl⟩
  case len => obtain ⟨d, sb, sl, kvs, M, f, l, c, new, rfl, R, hl, hn, hf, hfl, k⟩ := h; rfl
  case body =>
    obtain ⟨d, sb, sl, kvs, M, f, l, c, new, rfl, R, hl, hn, hf, hfl, k⟩ := h
    have hu := hu_of hr
    refine ⟨_, (pss_cons (ps_asg (pe_dget hu (pv 0) pe_str (fun _ _ => rfl)) (pg_tupK (K := K) (n := 3) rfl rfl (pgs_cons (pg_name (i := 5) sc__law_set.nd rfl (Or.inl rfl)) (pgs_cons (pg_name (i := 6) sc__law_set.nd rfl (Or.inl rfl)) (pgs_cons (pg_name (i := 7) sc__law_set.nd rfl (Or.inl rfl)) pgs_nil)))))
      (Evl.pss_cut (ps_if (pt_chain op_lt op_lt (pv 1) (pv 7) (pv 2)) (pss_one (ps_set (i := 7) sc__law_set.nd rfl (Or.inl rfl) (pe_op op_add (pv 1) (pe_callB (call_lnK (K := K) rfl) rfl T.n_len boot_len (pa_cons (pv 3) pa_nil))))) (pss_one (ps_if (pt_cmpR op_gt (pv 7) (pv 1) (nomark _)) (pss_one (ps_set (i := 7) sc__law_set.nd rfl (Or.inl rfl) (pe_op op_sub (pe_op op_add (pv 7) (pe_callB (call_lnK (K := K) rfl) rfl T.n_len boot_len (pa_cons (pv 3) pa_nil))) (pe_op op_sub (pv 2) (pv 1))))) pss_nil)))
      (pss_one (ps_dput hu (pv 0) pe_str (pe_tup (pa_cons (pe_op op_addS (pe_op op_addS (pe_slice sl_str (pv 5) po_none (po_some (pv 1))) (pv 3)) (pe_slice sl_str (pv 5) (po_some (pv 2)) po_none)) (pa_cons (pv 4) (pa_cons (pv 7) pa_nil)))) rfl)))), ?_⟩
    obtain ⟨ho, hlen, ⟨r, hr, hp0⟩, kb, kl, kr, hb, hll, hne⟩ := id R
    obtain ⟨n1, n2⟩ := R.nes
    have hp : H r = some (.tup [.str M.now, .int M.caret, .int M.mark]) := hp0
    walk_at "z"
    refine z_cut (fun σ' H' => H' = H ∧ σ' = [some (.ref d), some (.int f), some (.int l), some (.str new), some (.int c), some (.str M.now), some (.int M.caret), some (.int (LineS.newMark M.mark f l new.length))]) ?_ ?_
    · walk_at "z"
      refine ite_b (fun h1 => ?_) (fun h1 => ?_)
      · have h1' := of_decide_eq_true h1
        walk_at "z"
        refine ite_b (fun h2 => ?_) (fun h2 => ?_)
        · have h2' := of_decide_eq_true h2
          walk_at "z"
          exact ⟨rfl, by unfold LineS.newMark; rw [if_neg (fun z => by omega), if_pos h1']; rfl⟩
        · have h2' := of_decide_eq_false h2
          walk_at "z"
          · exact ⟨rfl, by unfold LineS.newMark; rw [if_pos ⟨by omega, h1'⟩, show M.mark - (l - f) + new.length = M.mark + new.length - (l - f) by omega]; rfl⟩
      · have h1' := of_decide_eq_false h1
        walk_at "z"
        · exact ⟨rfl, by unfold LineS.newMark; rw [if_neg (fun z => h1' z.2), if_neg h1']; rfl⟩
    rintro σ' H' ⟨rfl, rfl⟩
    have e1 : cutS M.now none (some f) = S ((tl M.now).take f.toNat) := by rw [cutS_eq, cutL_to _ hf]
    have e2 : cutS M.now (some l) none = S ((tl M.now).drop l.toNat) := by rw [cutS_eq, cutL_from _ (by omega)]
    have b1 : (S ((tl M.now).take f.toNat)).length ≤ 1000 := by rw [len_S, List.length_take, ← len_tl]; omega
    have b2 : (S ((tl M.now).drop l.toNat)).length ≤ 1000 := by rw [len_S, List.length_drop, ← len_tl]; omega
    have e3 : S ((tl M.now).take f.toNat) ++ new ++ S ((tl M.now).drop l.toNat) = LineS.spliced M.now f l new := str_ext (by rw [tl_app, tl_app]; rfl)
    walk_at "z"
    rw [e1]
    walk_at "z"
    rw [e2]
    walk_at "z"
    rw [e3]
    intro r2 hr2
    have nd := (ne_of_none ho hr2).symm
    walk_at "z"
    exact k _ (putK kvs (.inr "now") (.ref r2)) ((R.same (Same.new (Same.refl _) hr2)).putNow (P := ⟨LineS.spliced M.now f l new, c, LineS.newMark M.mark f l new.length⟩) upd_same) (by walk_at "ex") (by walk_at "fr")
end

theorem sc__law_undo : FnScope ["state", "key", "source", "goal"] ["state", "key"] (defScope s__law_undo) := ⟨rfl, rfl, rfl, by decide +kernel, rfl, by decide +kernel, by decide +kernel⟩
section
variable {P : Program} {w : World} {K : PySem.W.Frag} {mg : Str → Option Value} {base : Heap}
def back (w : Str) (M : LineS) : Bool × LineS := if w = "undo" then M.undo else M.redo
def sp_law_undo (K : PySem.W.Frag) : Sp := fun vs H Q _ => ∃ (d sb sl : Addr) (kvs : List (Key × V)) (M : LineS) (w : Str) (m : Nat), vs = [.ref d, .str w] ∧ (w = "undo" ∨ w = "redo") ∧ StAt H d sb sl kvs M ∧ M.Ok m ∧ M.run = 0 ∧ M.before.length ≤ 100000 ∧ M.later.length ≤ 100000 ∧ ∀ H' kvs', StAt H' d sb sl kvs' (back w M).2 → Ex stK kvs kvs' → Fr [d, sb, sl] H H' → Q .non H'
theorem f__law_undo (T : Tx K mg) : Fn P w K mg base "_law_undo" 1 ["state", "key"] (sp_law_undo K) := by
  obtain ⟨fd, F⟩ := T.c.d.def_ 92 (d := d__law_undo) rfl
  refine ⟨_, fd, F.ok (CX := L2.CX P w) sc__law_undo (fun vs H Q E h => ?len) (fun cdv A outer s H vs Q E hr h => ?body), T.g__law_undo, F.kp, F.bindsN fun _ _ _ _ _ _ us hl => match us, hl with | [_, _], _ => rfl, FunD.bindsA F fun _ _ _ _ _ _ us hl => match us, hl with | [_, _], _ => rfl⟩
  case len => obtain ⟨d, sb, sl, kvs, M, w, m, rfl, hw, R, ok, hrun, hbl, hll0, k⟩ := h; rfl
  case body =>
    obtain ⟨d, sb, sl, kvs, M, w, m, rfl, hw, R, ok, hrun, hbl, hll0, k⟩ := h
    have hu64 := hr.units
    have hu := hu_of hr
    refine ⟨_, (pss_cons (ps_asg (pe_ifExp (pt_cmpR op_eq (pv 1) pe_str (nomark _)) (pe_tup (pa_cons pe_str (pa_cons pe_str pa_nil))) (pe_tup (pa_cons pe_str (pa_cons pe_str pa_nil)))) (pg_tupK (K := K) (n := 2) rfl rfl (pgs_cons (pg_name (i := 2) sc__law_undo.nd rfl (Or.inl rfl)) (pgs_cons (pg_name (i := 3) sc__law_undo.nd rfl (Or.inl rfl)) pgs_nil))))
      (pss_one (ps_if (pt_cmpR (op_neDK (K := K) rfl hu64) (pe_dget hu (pv 0) (pv 2) (fun _ _ => rfl)) (pe_lst pa_nil) (nomark _)) (pss_cons (ps_expr (pe_bmK (K := K) rfl PySem.F.plainAttrs_list PySem.F.slot_list_append PySem.F.type_list_append mt_append (pe_dget hu (pv 0) (pv 3) (fun _ _ => rfl)) (pa_cons (pe_dget hu (pv 0) pe_str (fun _ _ => rfl)) pa_nil)))
      (pss_one (ps_dput hu (pv 0) pe_str (pe_bm0K (K := K) rfl PySem.F.plainAttrs_list PySem.F.slot_list_pop PySem.F.type_list_pop mt_pop (pe_dget hu (pv 0) (pv 2) (fun _ _ => rfl))) rfl))) pss_nil))), ?_⟩
    obtain ⟨ho, hlen, ⟨r, hr, hp0⟩, kb, kl, kr, hb, hll, hne⟩ := id R
    obtain ⟨n1, n2⟩ := R.nes
    obtain ⟨rs, hrs, hpr⟩ := id hb
    obtain ⟨qs, hqs, hpq⟩ := id hll
    have e1 := paired_len hpr
    have e2 := paired_len hpq
    rcases hw with rfl | rfl
    · have eb : back "undo" M = M.undo := by unfold back; rw [if_pos rfl]
      rw [eb] at k
      walk_at "z"
      intro t0 ht0
      walk_at "z"
      intro l0 hl0
      obtain ⟨hl0a, hl0b⟩ := un_fresh hl0
      have nl0 : sb ≠ l0 := ne_of_none hrs hl0b
      have s0 : Same H (upd (upd H t0 (.tup [.str "before", .str "later"])) l0 (.lst [])) := by walk_at "sa"
      have R0 := R.same s0
      refine z_neD (dp_pics R0.bs) (.lst (SqL.of upd_same) .nil) (sh_pics ok.pb).ok (by decide +kernel) ?_
      have hrs0 := s0 _ _ hrs
      have hqs0 := s0 _ _ hqs
      have hr0 := s0 _ _ hp0
      have ho0 := s0 _ _ ho
      rw [eqv_pics_nil]
      generalize upd (upd H t0 (HO.tup [V.str (Str.ofString "before"), V.str (Str.ofString "later")])) l0 (HO.lst []) = H0 at *
      cases q : M.before.getLast? with
      | none =>
        have en : M.before = [] := List.getLast?_eq_none_iff.mp q
        have eu : M.undo = (false, M) := by unfold LineS.undo; rw [q]; show (false, ({ M with run := 0 } : LineS)) = _; rw [← hrun]
        rw [eu] at k
        rw [en]
        walk_at "z"
        exact k _ kvs R0 ex_refl (Fr.same s0)
      | some P =>
        obtain ⟨ps, eps⟩ := List.getLast?_eq_some_iff.mp q
        have hpx := hpr
        rw [eps] at hpx
        obtain ⟨rs', r0, er, hp', hP⟩ := paired_last hpx
        have hne0 : M.before.isEmpty = false := by rw [eps]; cases ps <;> rfl
        rw [hne0]
        walk_at "z"
        have f1 : Fr [sl] H0 (upd H0 sl (.lst (qs.map V.ref ++ [.ref r]))) := Fr.upd Fr.refl (by simp)
        have ng : sb ≠ sl := hne
        have nd1 : d ≠ sl := n2
        have nd2 : d ≠ sb := n1
        have hs1 := f1 _ _ hrs0 (not_mem1 ng)
        have ho1 := f1 _ _ ho0 (not_mem1 nd1)
        have hg1 : upd H0 sl (.lst (qs.map V.ref ++ [.ref r])) sl = some (.lst (qs.map V.ref ++ [.ref r])) := upd_same
        have ntg : Nt H0 [sl] := .cons (nt_lst hqs0) nt_nil
        have hp1 := pics_fr (pics_same hp' s0) f1 ntg
        have hP1 := (hP.same s0).fr f1 ntg
        have hG1 := paired_snoc (pics_fr (pics_same hpq s0) f1 ntg) (PicAt.fr (hp0.same s0) f1 ntg)
        generalize upd H0 sl (HO.lst (qs.map V.ref ++ [V.ref r])) = H1 at *
        walk_at "z"
        refine z_pop (y := .ref r0) hs1 (by rw [er]; simp) ?_
        have ed : (rs.map V.ref).dropLast = rs'.map V.ref := by rw [er]; simp
        rw [ed]
        have f2 : Fr [sb] H1 (upd H1 sb (.lst (rs'.map V.ref))) := Fr.upd Fr.refl (by simp)
        have nts : Nt H1 [sb] := .cons (nt_lst hs1) nt_nil
        have ho2 := f2 _ _ ho1 (not_mem1 nd2)
        have hs2 : upd H1 sb (.lst (rs'.map V.ref)) sb = some (.lst (rs'.map V.ref)) := upd_same
        have hg2 := f2 _ _ hg1 (not_mem1 ng.symm)
        have hp2 := pics_fr hp1 f2 nts
        have hP2 := hP1.fr f2 nts
        have hG2 := pics_fr hG1 f2 nts
        generalize upd H1 sb (HO.lst (rs'.map V.ref)) = H2 at *
        walk_at "z"
        have eu : M.undo = (true, { M with now := P.txt, caret := P.at_, mark := P.mrk, before := ps, later := M.later ++ [M.pic], run := 0 }) := by
          unfold LineS.undo; rw [q]; simp only [eps, List.dropLast_concat]
        rw [eu] at k
        have f3 : Fr [d] H2 (upd H2 d (.dK (putK kvs (.inr "now") (.ref r0)))) := Fr.upd Fr.refl (by simp)
        have ntd : Nt H2 [d] := .cons (nt_dK ho2) nt_nil
        refine k _ (putK kvs (.inr "now") (.ref r0)) ?_ (by walk_at "ex") ((Fr.same s0).trans ((f1.mono (by simp)).trans ((f2.mono (by simp)).trans (f3.mono (by simp)))))
        have S3 : PicsAt (upd H2 d (.dK (putK kvs (.inr "now") (.ref r0)))) sb ps := ⟨rs', f3 _ _ hs2 (not_mem1 nd2.symm), pics_fr hp2 f3 ntd⟩
        have G3 : PicsAt (upd H2 d (.dK (putK kvs (.inr "now") (.ref r0)))) sl (M.later ++ [M.pic]) := ⟨qs ++ [r], by rw [List.map_append]; exact f3 _ _ hg2 (not_mem1 nd1.symm), pics_fr hG2 f3 ntd⟩
        exact ⟨upd_same, by rw [put_len hr]; exact hlen, ⟨r0, by walk_at "dg", hP2.fr f3 ntd⟩, by walk_at "dg", by walk_at "dg", by rw [show ({ M with now := P.txt, caret := P.at_, mark := P.mrk, before := ps, later := M.later ++ [M.pic], run := 0 } : LineS).run = M.run from hrun.symm]; walk_at "dg", S3, G3, hne⟩
    · have eb : back "redo" M = M.redo := by unfold back; rw [if_neg (by decide)]
      rw [eb] at k
      walk_at "z"
      intro t0 ht0
      walk_at "z"
      intro l0 hl0
      obtain ⟨hl0a, hl0b⟩ := un_fresh hl0
      have nl0 : sl ≠ l0 := ne_of_none hqs hl0b
      have s0 : Same H (upd (upd H t0 (.tup [.str "later", .str "before"])) l0 (.lst [])) := by walk_at "sa"
      have R0 := R.same s0
      refine z_neD (dp_pics R0.ls) (.lst (SqL.of upd_same) .nil) (sh_pics ok.pl).ok (by decide +kernel) ?_
      have hrs0 := s0 _ _ hrs
      have hqs0 := s0 _ _ hqs
      have hr0 := s0 _ _ hp0
      have ho0 := s0 _ _ ho
      rw [eqv_pics_nil]
      generalize upd (upd H t0 (HO.tup [V.str (Str.ofString "later"), V.str (Str.ofString "before")])) l0 (HO.lst []) = H0 at *
      cases q : M.later.getLast? with
      | none =>
        have en : M.later = [] := List.getLast?_eq_none_iff.mp q
        have eu : M.redo = (false, M) := by unfold LineS.redo; rw [q]; show (false, ({ M with run := 0 } : LineS)) = _; rw [← hrun]
        rw [eu] at k
        rw [en]
        walk_at "z"
        exact k _ kvs R0 ex_refl (Fr.same s0)
      | some P =>
        obtain ⟨ps, eps⟩ := List.getLast?_eq_some_iff.mp q
        have hpx := hpq
        rw [eps] at hpx
        obtain ⟨rs', r0, er, hp', hP⟩ := paired_last hpx
        have hne0 : M.later.isEmpty = false := by rw [eps]; cases ps <;> rfl
        rw [hne0]
        walk_at "z"
        have f1 : Fr [sb] H0 (upd H0 sb (.lst (rs.map V.ref ++ [.ref r]))) := Fr.upd Fr.refl (by simp)
        have ng : sl ≠ sb := hne.symm
        have nd1 : d ≠ sb := n1
        have nd2 : d ≠ sl := n2
        have hs1 := f1 _ _ hqs0 (not_mem1 ng)
        have ho1 := f1 _ _ ho0 (not_mem1 nd1)
        have hg1 : upd H0 sb (.lst (rs.map V.ref ++ [.ref r])) sb = some (.lst (rs.map V.ref ++ [.ref r])) := upd_same
        have ntg : Nt H0 [sb] := .cons (nt_lst hrs0) nt_nil
        have hp1 := pics_fr (pics_same hp' s0) f1 ntg
        have hP1 := (hP.same s0).fr f1 ntg
        have hG1 := paired_snoc (pics_fr (pics_same hpr s0) f1 ntg) (PicAt.fr (hp0.same s0) f1 ntg)
        generalize upd H0 sb (HO.lst (rs.map V.ref ++ [V.ref r])) = H1 at *
        walk_at "z"
        refine z_pop (y := .ref r0) hs1 (by rw [er]; simp) ?_
        have ed : (qs.map V.ref).dropLast = rs'.map V.ref := by rw [er]; simp
        rw [ed]
        have f2 : Fr [sl] H1 (upd H1 sl (.lst (rs'.map V.ref))) := Fr.upd Fr.refl (by simp)
        have nts : Nt H1 [sl] := .cons (nt_lst hs1) nt_nil
        have ho2 := f2 _ _ ho1 (not_mem1 nd2)
        have hs2 : upd H1 sl (.lst (rs'.map V.ref)) sl = some (.lst (rs'.map V.ref)) := upd_same
        have hg2 := f2 _ _ hg1 (not_mem1 ng.symm)
        have hp2 := pics_fr hp1 f2 nts
        have hP2 := hP1.fr f2 nts
        have hG2 := pics_fr hG1 f2 nts
        generalize upd H1 sl (HO.lst (rs'.map V.ref)) = H2 at *
        walk_at "z"
        have eu : M.redo = (true, { M with now := P.txt, caret := P.at_, mark := P.mrk, later := ps, before := M.before ++ [M.pic], run := 0 }) := by
          unfold LineS.redo; rw [q]; simp only [eps, List.dropLast_concat]
        rw [eu] at k
        have f3 : Fr [d] H2 (upd H2 d (.dK (putK kvs (.inr "now") (.ref r0)))) := Fr.upd Fr.refl (by simp)
        have ntd : Nt H2 [d] := .cons (nt_dK ho2) nt_nil
        refine k _ (putK kvs (.inr "now") (.ref r0)) ?_ (by walk_at "ex") ((Fr.same s0).trans ((f1.mono (by simp)).trans ((f2.mono (by simp)).trans (f3.mono (by simp)))))
        have S3 : PicsAt (upd H2 d (.dK (putK kvs (.inr "now") (.ref r0)))) sl ps := ⟨rs', f3 _ _ hs2 (not_mem1 nd2.symm), pics_fr hp2 f3 ntd⟩
        have G3 : PicsAt (upd H2 d (.dK (putK kvs (.inr "now") (.ref r0)))) sb (M.before ++ [M.pic]) := ⟨rs ++ [r], by rw [List.map_append]; exact f3 _ _ hg2 (not_mem1 nd1.symm), pics_fr hG2 f3 ntd⟩
        exact ⟨upd_same, by rw [put_len hr]; exact hlen, ⟨r0, by walk_at "dg", hP2.fr f3 ntd⟩, by walk_at "dg", by walk_at "dg", by rw [show ({ M with now := P.txt, caret := P.at_, mark := P.mrk, later := ps, before := M.before ++ [M.pic], run := 0 } : LineS).run = M.run from hrun.symm]; walk_at "dg", G3, S3, hne⟩
end

theorem sc__law_fresh : FnScope [] [] (defScope s__law_fresh) := ⟨rfl, rfl, rfl, by decide +kernel, rfl, by decide +kernel, by decide +kernel⟩
section
variable {P : Program} {w : World} {K : PySem.W.Frag} {mg : Str → Option Value} {base : Heap}
def sp_law_fresh (K : PySem.W.Frag) : Sp := fun vs H Q _ => vs = [] ∧ ∀ H' d sb sl kvs, H d = none → H sb = none → H sl = none → StAt H' d sb sl kvs (LineS.fresh "") → kvs.length ≤ 4 → Same H H' → Q (.ref d) H'
theorem f__law_fresh (T : Tx K mg) : Fn P w K mg base "_law_fresh" 1 [] (sp_law_fresh K) := by
  obtain ⟨fd, F⟩ := T.c.d.def_ 95 (d := d__law_fresh) rfl
  refine ⟨_, fd, F.ok (CX := L2.CX P w) sc__law_fresh (fun vs H Q E h => ?len) (fun cdv A outer s H vs Q E hr h => ?body), T.g__law_fresh, F.kp, F.bindsN fun _ _ _ _ _ _ us hl => match us, hl with | [], _ => rfl, FunD.bindsA F fun _ _ _ _ _ _ us hl => match us, hl with | [], _ => rfl⟩
  case len => obtain ⟨rfl, k⟩ := h; rfl
  case body =>
    obtain ⟨rfl, k⟩ := h
    refine ⟨_, (pss_one (ps_ret (pe_disp (pps_cons pe_str (pe_tup (pa_cons pe_str (pa_cons pe_int (pa_cons pe_int pa_nil)))) (pps_cons pe_str (pe_lst pa_nil) (pps_cons pe_str (pe_lst pa_nil) (pps_cons pe_str pe_int pps_nil)))) (by rfl) (by rfl) (by intro z; cases z) (by decide)))), ?_⟩
    walk_at "z"
    intro d hd
    walk_at "z"
    intro r hr
    walk_at "z"
    intro sb hsb
    walk_at "z"
    intro sl hsl
    walk_at "z"
    obtain ⟨nrd, hr2⟩ := un_fresh hr
    obtain ⟨nbr, hb1⟩ := un_fresh hsb
    obtain ⟨nbd, hb2⟩ := un_fresh hb1
    obtain ⟨nlb, hl0⟩ := un_fresh hsl
    obtain ⟨nlr, hl1⟩ := un_fresh hl0
    obtain ⟨nld, hl2⟩ := un_fresh hl1
    refine ⟨by walk_at "h", [(.inr "now", .ref r), (.inr "before", .ref sb), (.inr "later", .ref sl), (.inr "run", .int 0)], rfl, (by show 4 ≤ 15; decide), ?_⟩
    refine k _ d sb sl _ hd hb2 hl2 ⟨upd_same, Nat.le_trans (length_mergeK _ _) (by show 0 + 4 ≤ 100; decide), ⟨r, by rfl, ?_⟩, by rfl, by rfl, by rfl, ⟨[], ?_, .nil⟩, ⟨[], ?_, .nil⟩, nlb.symm⟩ (Nat.le_trans (length_mergeK _ _) (by show 0 + 4 ≤ 4; decide)) (by walk_at "sa")
    · show _ = _
      rw [upd_ne nrd]
      walk_at "h"
    · rw [upd_ne nbd]
      walk_at "h"
    · rw [upd_ne nld]
      walk_at "h"
end

theorem sc__law_load : FnScope ["state", "text"] ["state", "text"] (defScope s__law_load) := ⟨rfl, rfl, rfl, by decide +kernel, rfl, by decide +kernel, by decide +kernel⟩
section
variable {P : Program} {w : World} {K : PySem.W.Frag} {mg : Str → Option Value} {base : Heap}
def sp_law_load (K : PySem.W.Frag) : Sp := fun vs H Q _ => ∃ (d sb sl : Addr) (kvs : List (Key × V)) (M : LineS) (x : Str), vs = [.ref d, .str x] ∧ StAt H d sb sl kvs M ∧ x.length ≤ 1000 ∧ ∀ H' sb' sl' kvs', H sb' = none → H sl' = none → StAt H' d sb' sl' kvs' (LineS.fresh x) → Ex stK kvs kvs' → Fr [d] H H' → Q .non H'
theorem f__law_load (T : Tx K mg) : Fn P w K mg base "_law_load" 1 ["state", "text"] (sp_law_load K) := by
  obtain ⟨fd, F⟩ := T.c.d.def_ 96 (d := d__law_load) rfl
  refine ⟨_, fd, F.ok (CX := L2.CX P w) sc__law_load (fun vs H Q E h => ?len) (fun cdv A outer s H vs Q E hr h => ?body), T.g__law_load, F.kp, F.bindsN fun _ _ _ _ _ _ us hl => match us, hl with | [_, _], _ => rfl, FunD.bindsA F fun _ _ _ _ _ _ us hl => match us, hl with | [_, _], _ => rfl⟩
  case len => obtain ⟨d, sb, sl, kvs, M, x, rfl, R, hx, k⟩ := h; rfl
  case body =>
    obtain ⟨d, sb, sl, kvs, M, x, rfl, R, hx, k⟩ := h
    have hu := hu_of hr
    refine ⟨_, (pss_cons (ps_dput hu (pv 0) pe_str (pe_tup (pa_cons (pv 1) (pa_cons (pe_callB (call_lnK (K := K) rfl) rfl T.n_len boot_len (pa_cons (pv 1) pa_nil)) (pa_cons pe_int pa_nil)))) rfl)
      (pss_cons (ps_dput hu (pv 0) pe_str (pe_lst pa_nil) rfl)
      (pss_cons (ps_dput hu (pv 0) pe_str (pe_lst pa_nil) rfl)
      (pss_one (ps_dput hu (pv 0) pe_str pe_int rfl))))), ?_⟩
    have ho := R.ob
    have hlen := R.len
    walk_at "z"
    intro r hr
    have R1 := R.same (Same.new (Same.refl _) hr (o := .tup [.str x, .int x.length, .int 0]))
    have R2 := R1.putNow (P := ⟨x, x.length, 0⟩) (r := r) upd_same
    have f2 : Fr [d] H (upd (upd H r (.tup [.str x, .int x.length, .int 0])) d (.dK (putK kvs (.inr "now") (.ref r)))) := Fr.upd (Fr.same (Same.new (Same.refl _) hr)) (by simp)
    walk_at "z"
    clear ho R1
    have x2 : Ex stK kvs (putK kvs (.inr "now") (.ref r)) := by walk_at "ex"
    have hlen2 := R2.len
    generalize putK kvs (.inr (Str.ofString "now")) (.ref r) = kv2 at *
    generalize upd (upd H r _) d _ = H2 at *
    have ho2 := R2.ob
    intro b hb
    have nbd := ne_of_none ho2 hb
    have R3 := R2.same (Same.new (Same.refl _) hb (o := .lst []))
    have nbl : b ≠ sl := fun z => R2.alive b (by simp [z]) hb
    have R4 := R3.putBefore (b := b) (ps := []) ⟨[], upd_same, .nil⟩ nbd nbl
    walk_at "z"
    intro l hl
    obtain ⟨nld, hl1⟩ := un_fresh hl
    obtain ⟨nlb, hl2⟩ := un_fresh hl1
    have R5 := R4.same (Same.new (Same.refl _) hl (o := .lst []))
    have R6 := (R5.putLater (b := l) (ps := []) ⟨[], upd_same, .nil⟩ nld.symm nlb.symm).putRun 0
    walk_at "z"
    have hb0 : H b = none := f2.free hb (by simpa using nbd.symm)
    have hl0 : H l = none := f2.free hl2 (by simpa using nld)
    exact k _ b l _ hb0 hl0 R6 (x2.trans (by walk_at "ex")) (f2.trans (by walk_at "fr"))
end

theorem sc__law_find : FnScope ["state", "part", "spot", "some", "k"] ["state", "part", "spot"] (defScope s__law_find) := ⟨rfl, rfl, rfl, by decide +kernel, rfl, by decide +kernel, by decide +kernel⟩
section
variable {P : Program} {w : World} {K : PySem.W.Frag} {mg : Str → Option Value} {base : Heap}
def sp_law_find (K : PySem.W.Frag) : Sp := fun vs H Q _ => ∃ (d lk : Addr) (kvs : List (Key × V)) (ks : List Str) (part : Str) (g : Int), vs = [.ref d, .str part, .int g] ∧ H d = some (.dK kvs) ∧ DG kvs "kept" (.ref lk) ∧ H lk = some (.lst (ks.map V.str)) ∧ ks.length ≤ 1000 ∧ ∀ H', Same H H' → Q (optV (findH ks part g)) H'
theorem f__law_find (T : Tx K mg) : Fn P w K mg base "_law_find" 1 ["state", "part", "spot"] (sp_law_find K) := by
  obtain ⟨fd, F⟩ := T.c.d.def_ 101 (d := d__law_find) rfl
  refine ⟨_, fd, F.ok (CX := L2.CX P w) sc__law_find (fun vs H Q E h => ?len) (fun cdv A outer s H vs Q E hr h => ?body), T.g__law_find, F.kp, F.bindsN fun _ _ _ _ _ _ us hl => match us, hl with | [_, _, _], _ => rfl, FunD.bindsA F fun _ _ _ _ _ _ us hl => match us, hl with | [_, _, _], _ => rfl⟩
  case len => obtain ⟨d, lk, kvs, ks, part, g, rfl, ho, kk, hk, hl, k⟩ := h; rfl
  case body =>
    obtain ⟨d, lk, kvs, ks, part, g, rfl, ho, kk, hk, hl, k⟩ := h
    have hu64 := hr.units
    have hu := hu_of hr
    refine ⟨_, (pss_cons (ps_setLc (i := 3) (own := [("k", 4)]) rfl sc__law_find.nd rfl rfl (sw_true rfl rfl rfl (by decide +kernel)) (pi_range1 rfl T.n_range (pa_cons (pe_callB (call_lnK (K := K) rfl) rfl T.n_len boot_len (pa_cons (pe_dget hu (pv 0) pe_str (fun _ _ => rfl)) pa_nil)) pa_nil)) (blkOk_by (N := ["state", "part", "spot", "some", "k"]) (sc := defScope s__law_find) (by decide +kernel)) (fun _ _ _ _ _ => (pg_name (i := 4) sc__law_find.nd rfl (Or.inl rfl))) (fun _ _ _ _ _ => (pts_one (PW.pt (pw_and (pt_cmpR op_le (pv 4) (pv 2) (nomark _)) (pw_and1 (pt_cmpR op_inStr (pv 1) (pe_ix (ix_listK (K := K) rfl) (pe_dget hu (pv 0) pe_str (fun _ _ => rfl)) (pv 4) (fun _ _ => rfl)) rfl)))))) (fun _ _ _ _ _ => (pv 4)))
      (pss_one (ps_ret (pe_ifExp (pt_cmpR (op_neDK (K := K) rfl hu64) (pv 3) (pe_lst pa_nil) (nomark _)) (pe_ix (ix_listK (K := K) rfl) (pv 3) (pe_un un_neg pe_int) (fun _ _ => rfl)) pe_non)))), ?_⟩
    walk_at "z"
    rw [List.length_map]
    refine z_rng1e (by omega) (by omega) ?_
    rw [show ((ks.length : Nat) : Int).toNat = ks.length by omega]
    intro D hD
    refine lc_rngP (hitH ks part g) (fun j => .int (0 + (j : Nat))) (by omega) (by intro v; rfl) hD ?_ ?_ ?_
    · intro j H2 Q2 hj s2 q
      have ho2 := s2 _ _ ho
      have hk2 := s2 _ _ hk
      have hg : ks[j]? = some (ks.getD j "") := by rw [List.getD_eq_getElem?_getD, List.getElem?_eq_getElem hj]; rfl
      walk_at "z"
      unfold hitH at q
      refine ite_b (fun g1 => ?_) (fun g1 => ?_)
      · have g1' := of_decide_eq_true g1
        rw [decide_eq_true (show (j : Int) ≤ g by omega), Bool.true_and] at q
        walk_at "z"
        refine z_ixL (v := .str (ks.getD j "")) (SqL.of hk2) (by rw [Int.zero_add]; exact atI_nat (by rw [List.getElem?_map, hg]; rfl)) ?_
        walk_at "z"
        exact q
      · have g1' := of_decide_eq_false g1
        rw [decide_eq_false (show ¬ (j : Int) ≤ g by omega), Bool.false_and] at q
        walk_at "z"
        exact q
    · intro j H2 Q2 hj _ s2 q
      walk_at "z"
      exact q
    generalize hL : (List.range ks.length).filter (hitH ks part g) = L at *
    have eF : findH ks part g = L.getLast? := by unfold findH; rw [hL]
    rw [eF] at k
    have eV : L.map (fun j => V.int (0 + (j : Nat))) = (L.map (fun j => ((j : Nat) : Int))).map V.int := by
      rw [List.map_map]
      refine List.map_congr_left fun j _ => ?_
      show V.int (0 + (j : Int)) = V.int (j : Int)
      rw [Int.zero_add]
    rw [eV]
    have s1 : Same H (upd H D (.lst ((L.map (fun j => ((j : Nat) : Int))).map V.int))) := Same.new (Same.refl _) hD
    have e1 : upd H D (.lst ((L.map (fun j => ((j : Nat) : Int))).map V.int)) D = some (.lst ((L.map (fun j => ((j : Nat) : Int))).map V.int)) := upd_same
    generalize upd H D _ = H1 at s1 e1 ⊢
    walk_at "z"
    intro n0 hn0
    have s2 : Same H1 (upd H1 n0 (.lst [])) := Same.new (Same.refl _) hn0
    have e2 := s2 _ _ e1
    refine z_neD (d := intD (L.map (fun j => ((j : Nat) : Int)))) (e := intD []) (dp_ints (SqL.of e2)) (.lst (SqL.of upd_same) .nil) (shaped_ints _) (shaped_ints _) ?_
    rw [eqv_ints_nil]
    generalize upd H1 n0 _ = H2 at s2 e2 ⊢
    rcases List.eq_nil_or_concat L with rfl | ⟨L0, j, rfl⟩
    · walk_at "z"
      exact k _ (s1.trans s2)
    · rw [List.concat_eq_append, List.getLast?_concat] at k
      have hne : ((L0.concat j).map (fun j => ((j : Nat) : Int))).isEmpty = false := by simp
      rw [hne]
      walk_at "z"
      refine z_ixL (v := .int (j : Nat)) (SqL.of e2) (by rw [List.concat_eq_append, List.map_append, List.map_append]; exact atI_last _ _) ?_
      exact k _ (s1.trans s2)
end

theorem sc_look_text : FnScope ["text", "sign"] ["text"] (defScope s_look_text) := ⟨rfl, rfl, rfl, by decide +kernel, rfl, by decide +kernel, by decide +kernel⟩
section
variable {P : Program} {w : World} {K : PySem.W.Frag} {mg : Str → Option Value} {base : Heap}
def sp_look_text (K : PySem.W.Frag) : Sp := fun vs H Q E => ∃ s : Str, vs = [.str s] ∧ s.length < sizeLine ∧ (okText s = true → ∀ H', Same H H' → Q .non H') ∧ (okText s = false → ∀ H', Same H H' → E (.ref (He.ga K "BadText")) none H')
theorem f_look_text (T : Tx K mg) : Fn P w K mg base "look_text" 2 ["text"] (sp_look_text K) := by
  obtain ⟨fd, F⟩ := T.c.d.def_ 2 (d := d_look_text) rfl
  refine ⟨_, fd, F.ok (CX := L2.CX P w) sc_look_text (fun vs H Q E h => ?len) (fun cdv A outer s H vs Q E hr h => ?body), T.g_look_text, F.kp, F.bindsN fun _ _ _ _ _ _ us hl => match us, hl with | [_], _ => rfl, FunD.bindsA F fun _ _ _ _ _ _ us hl => match us, hl with | [_], _ => rfl⟩
  case len => obtain ⟨x, rfl, hx, k1, k2⟩ := h; rfl
  case body =>
    obtain ⟨x, rfl, hx, k1, k2⟩ := h
    refine ⟨_, (pss_one (ps_if (PW.pt (pw_or (pt_cmpR op_gt (pe_callB (call_lnK (K := K) rfl) rfl T.n_len boot_len (pa_cons (pv 0) pa_nil)) (pe_gcon T.c_MOST_TEXT) (nomark _)) (pw_or1 (pt_not (pt_val (pe_callB (cr_allK (K := K) rfl rfl) rfl T.n_all (by decide +kernel) (pa_cons (pe_lc (own := [("sign", 1)]) rfl sc_look_text.nd (pi_str (pv 0)) (blkOk_by (N := ["text", "sign"]) (sc := defScope s_look_text) (by decide +kernel)) (fun _ _ _ _ _ => (pg_name (i := 1) sc_look_text.nd rfl (Or.inl rfl))) (fun _ _ _ _ _ => pts_nil) (fun _ _ _ _ _ => (pe_fn (f_is_sign T) (hr.mono (by decide)) takes0 (pa_cons (pv 1) pa_nil)))) pa_nil))))))) (pss_one (ps_rs rfl tkOf T.x_BadText T.g_BadText)) pss_nil)), ?_⟩
    have hx' : x.length ≤ sizeLine := Nat.le_of_lt hx
    walk_at "z"
    refine ite_b (fun h1 => ?_) (fun h1 => ?_)
    · have h1' := of_decide_eq_true h1
      walk_at "z"
      refine k2 ?_ _ (Same.refl _)
      unfold okText
      rw [decide_eq_false (by omega)]; rfl
    · have h1' := of_decide_eq_false h1
      walk_at "z"
      intro D hD
      refine lc_strP (fun c => .bl (okc c)) hx (fun _ => rfl) hD (fun c H2 Q2 hs k => ?_) ?_
      · walk_at "z"
        exact ⟨_, rfl, by show 1 ≤ sizeLine; decide, k⟩
      · have hs : Same H (upd H D (.lst ((tl x).map fun c => V.bl (okc c)))) := fun b o e => by rw [upd_ne (ne_of_none e hD)]; exact e
        walk_at "z"
        refine z_all ((tl x).map okc) (by rw [List.map_map]; exact SqL.of upd_same) ?_
        walk_at "z"
        have e : okText x = ((tl x).map okc).all id := by
          unfold okText
          rw [decide_eq_true (by omega), Bool.true_and, List.all_map]; rfl
        refine ite_b (fun h2 => ?_) (fun h2 => ?_)
        · walk_at "z"
          exact k2 (by rw [e]; simpa using h2) _ hs
        · walk_at "z"
          exact k1 (by rw [e]; simpa using h2) _ hs
end

theorem sc_Line_go : FnScope ["self", "at"] ["self", "at"] (defScope s_Line_go) := ⟨rfl, rfl, rfl, by decide +kernel, rfl, by decide +kernel, by decide +kernel⟩
section
variable {P : Program} {w : World} {K : PySem.W.Frag} {mg : Str → Option Value} {base : Heap}
def sp_Line_go (K : PySem.W.Frag) : Sp := fun vs H Q E => ∃ (p lb ll : Addr) (L : LineS) (a : Int), vs = [.ref p, .int a] ∧ LineAt K H p lb ll L ∧ L.now.length ≤ 400 ∧ (LineS.place L.now a → ∀ H', LineAt K H' p lb ll (L.go a) → Fr [p] H H' → Q .non H') ∧ (¬ LineS.place L.now a → E (.ref (He.ga K "BadPlace")) none H)
theorem m_Line_go (T : Tx K mg) : Mt P w K mg base (He.ga K "Line") "go" 2 ["self", "at"] (sp_Line_go K) := by
  obtain ⟨fd, F⟩ := T.c.d.def_ 24 (d := d_Line_go) rfl
  refine ⟨_, fd, F.ok (CX := L2.CX P w) sc_Line_go (fun vs H Q E h => ?len) (fun cdv A outer s H vs Q E hr h => ?body), T.me_Line_go, T.cl_Line, F.bindsN fun _ _ _ _ _ _ us hl => match us, hl with | [_, _], _ => rfl⟩
  case len => obtain ⟨p, lb, ll, L, a, rfl, R, hl, k1, k2⟩ := h; rfl
  case body =>
    obtain ⟨p, lb, ll, L, a, rfl, R, hl, k1, k2⟩ := h
    refine ⟨_, (pss_cons (ps_expr (pe_fn (f_look_place T) (hr.mono (by decide)) tkOf (pa_cons (pe_get T.cl_Line T.na_Line_now (pv 0)) (pa_cons (pv 1) pa_nil))))
      (pss_cons (ps_put T.cl_Line T.na_Line_caret (pv 0) (pv 1))
      (pss_one (ps_put T.cl_Line T.na_Line_run (pv 0) pe_int)))), ?_⟩
    obtain ⟨⟨dx, ho⟩, hb, hll, hne⟩ := id R
    obtain ⟨n1, n2⟩ := R.nes
    walk_at "z"
    refine ⟨L.now, a, rfl, by rw [sizeLine_eq]; omega, fun ok => ?_, fun bad => k2 bad⟩
    walk_at "z"
    have f : Fr [p] H (upd (upd H p (.ins (He.ga K "Line") dx (putF "caret" (.int a) (lineF L.now L.caret L.mark lb ll L.run)))) p (.ins (He.ga K "Line") dx (putF "run" (.int 0) (putF "caret" (.int a) (lineF L.now L.caret L.mark lb ll L.run))))) := by walk_at "fr"
    exact k1 ok _ ⟨⟨dx, by walk_at "h"⟩, hb.fr f (.cons (nt_ins ho) nt_nil) (not_mem1 n1.symm), hll.fr f (.cons (nt_ins ho) nt_nil) (not_mem1 n2.symm), hne⟩ f
end

theorem sc_Line_put_mark : FnScope ["self", "at"] ["self", "at"] (defScope s_Line_put_mark) := ⟨rfl, rfl, rfl, by decide +kernel, rfl, by decide +kernel, by decide +kernel⟩
section
variable {P : Program} {w : World} {K : PySem.W.Frag} {mg : Str → Option Value} {base : Heap}
def sp_Line_put_mark (K : PySem.W.Frag) : Sp := fun vs H Q E => ∃ (p lb ll : Addr) (L : LineS) (a : Int), vs = [.ref p, .int a] ∧ LineAt K H p lb ll L ∧ L.now.length ≤ 400 ∧ (LineS.place L.now a → ∀ H', LineAt K H' p lb ll (L.putMark a) → Fr [p] H H' → Q .non H') ∧ (¬ LineS.place L.now a → E (.ref (He.ga K "BadPlace")) none H)
theorem m_Line_put_mark (T : Tx K mg) : Mt P w K mg base (He.ga K "Line") "put_mark" 2 ["self", "at"] (sp_Line_put_mark K) := by
  obtain ⟨fd, F⟩ := T.c.d.def_ 26 (d := d_Line_put_mark) rfl
  refine ⟨_, fd, F.ok (CX := L2.CX P w) sc_Line_put_mark (fun vs H Q E h => ?len) (fun cdv A outer s H vs Q E hr h => ?body), T.me_Line_put_mark, T.cl_Line, F.bindsN fun _ _ _ _ _ _ us hl => match us, hl with | [_, _], _ => rfl⟩
  case len => obtain ⟨p, lb, ll, L, a, rfl, R, hl, k1, k2⟩ := h; rfl
  case body =>
    obtain ⟨p, lb, ll, L, a, rfl, R, hl, k1, k2⟩ := h
    refine ⟨_, (pss_cons (ps_expr (pe_fn (f_look_place T) (hr.mono (by decide)) tkOf (pa_cons (pe_get T.cl_Line T.na_Line_now (pv 0)) (pa_cons (pv 1) pa_nil))))
      (pss_cons (ps_put T.cl_Line T.na_Line_mark (pv 0) (pv 1))
      (pss_one (ps_put T.cl_Line T.na_Line_run (pv 0) pe_int)))), ?_⟩
    obtain ⟨⟨dx, ho⟩, hb, hll, hne⟩ := id R
    obtain ⟨n1, n2⟩ := R.nes
    walk_at "z"
    refine ⟨L.now, a, rfl, by rw [sizeLine_eq]; omega, fun ok => ?_, fun bad => k2 bad⟩
    walk_at "z"
    have f : Fr [p] H (upd (upd H p (.ins (He.ga K "Line") dx (putF "mark" (.int a) (lineF L.now L.caret L.mark lb ll L.run)))) p (.ins (He.ga K "Line") dx (putF "run" (.int 0) (putF "mark" (.int a) (lineF L.now L.caret L.mark lb ll L.run))))) := by walk_at "fr"
    exact k1 ok _ ⟨⟨dx, by walk_at "h"⟩, hb.fr f (.cons (nt_ins ho) nt_nil) (not_mem1 n1.symm), hll.fr f (.cons (nt_ins ho) nt_nil) (not_mem1 n2.symm), hne⟩ f
end

theorem sc_Line_undo : FnScope ["self"] ["self"] (defScope s_Line_undo) := ⟨rfl, rfl, rfl, by decide +kernel, rfl, by decide +kernel, by decide +kernel⟩
section
variable {P : Program} {w : World} {K : PySem.W.Frag} {mg : Str → Option Value} {base : Heap}
def sp_Line_undo (K : PySem.W.Frag) : Sp := fun vs H Q _ => ∃ (p lb ll : Addr) (L : LineS), vs = [.ref p] ∧ LineAt K H p lb ll L ∧ L.before.length ≤ 100000 ∧ L.later.length ≤ 100000 ∧ ∀ H', LineAt K H' p lb ll L.undo.2 → Fr [p, lb, ll] H H' → Q (.bl L.undo.1) H'
theorem m_Line_undo (T : Tx K mg) : Mt P w K mg base (He.ga K "Line") "undo" 2 ["self"] (sp_Line_undo K) := by
  obtain ⟨fd, F⟩ := T.c.d.def_ 33 (d := d_Line_undo) rfl
  refine ⟨_, fd, F.ok (CX := L2.CX P w) sc_Line_undo (fun vs H Q E h => ?len) (fun cdv A outer s H vs Q E hr h => ?body), T.me_Line_undo, T.cl_Line, F.bindsN fun _ _ _ _ _ _ us hl => match us, hl with | [_], _ => rfl⟩
  case len => obtain ⟨p, lb, ll, L, rfl, R, hbl, hll0, k⟩ := h; rfl
  case body =>
    obtain ⟨p, lb, ll, L, rfl, R, hbl, hll0, k⟩ := h
    refine ⟨_, (pss_cons (ps_put T.cl_Line T.na_Line_run (pv 0) pe_int)
      (pss_cons (ps_if (pt_not (pt_trK (K := K) rfl (pe_get T.cl_Line T.na_Line_before (pv 0)))) (pss_one (ps_ret pe_bl)) pss_nil)
      (pss_cons (ps_expr (pe_bmK (K := K) rfl PySem.F.plainAttrs_list PySem.F.slot_list_append PySem.F.type_list_append mt_append (pe_get T.cl_Line T.na_Line_later (pv 0)) (pa_cons (pe_mt0 (pv 0) (m_Line_picture T) (hr.mono (by decide)) tkOf) pa_nil)))
      (pss_cons (ps_expr (pe_mt (pv 0) (m_Line_show T) (hr.mono (by decide)) tkOf (pa_cons (pe_bm0K (K := K) rfl PySem.F.plainAttrs_list PySem.F.slot_list_pop PySem.F.type_list_pop mt_pop (pe_get T.cl_Line T.na_Line_before (pv 0))) pa_nil)))
      (pss_one (ps_ret pe_bl)))))), ?_⟩
    obtain ⟨⟨dx, ho⟩, hb, hll, hne⟩ := id R
    obtain ⟨n1, n2⟩ := R.nes
    obtain ⟨rs, hrs, hpr⟩ := id hb
    obtain ⟨qs, hqs, hpq⟩ := id hll
    have e1 := paired_len hpr
    have e2 := paired_len hpq
    walk_at "z"
    have f1 : Fr [p] H (upd H p (.ins (He.ga K "Line") dx (putF "run" (.int 0) (lineF L.now L.caret L.mark lb ll L.run)))) := by walk_at "fr"
    have R1 : LineAt K (upd H p (.ins (He.ga K "Line") dx (putF "run" (.int 0) (lineF L.now L.caret L.mark lb ll L.run)))) p lb ll { L with run := 0 } := ⟨⟨dx, by walk_at "h"⟩, hb.fr f1 (.cons (nt_ins ho) nt_nil) (not_mem1 n1.symm), hll.fr f1 (.cons (nt_ins ho) nt_nil) (not_mem1 n2.symm), hne⟩
    have hrs1 := f1 _ _ hrs (not_mem1 n1.symm)
    have hqs1 := f1 _ _ hqs (not_mem1 n2.symm)
    have hpr1 := pics_fr hpr f1 (.cons (nt_ins ho) nt_nil)
    have hpq1 := pics_fr hpq f1 (.cons (nt_ins ho) nt_nil)
    have hb1 : PicsAt _ lb L.before := ⟨rs, hrs1, hpr1⟩
    have hll1 : PicsAt _ ll L.later := ⟨qs, hqs1, hpq1⟩
    have ho1 : upd H p (.ins (He.ga K "Line") dx (putF "run" (.int 0) (lineF L.now L.caret L.mark lb ll L.run))) p = some (.ins (He.ga K "Line") dx (lineF L.now L.caret L.mark lb ll 0)) := by walk_at "h"
    clear ho hb hll hrs hqs hpr hpq
    generalize (upd H p (HO.ins (He.ga K (Str.ofString "Line")) dx (putF (Str.ofString "run") (V.int 0) (lineF L.now L.caret L.mark lb ll L.run)))) = H1 at *
    have ho := ho1
    have hb := hb1
    have hll := hll1
    have hrs := hrs1
    have hqs := hqs1
    have hpr := hpr1
    have hpq := hpq1
    clear ho1 hb1 hll1 hrs1 hqs1 hpr1 hpq1
    cases q : L.before.getLast? with
    | none =>
      have en : L.before = [] := List.getLast?_eq_none_iff.mp q
      have er : rs = [] := by
        rw [en] at e1
        exact List.eq_nil_of_length_eq_zero e1
      subst er
      walk_at "z"
      have eu : L.undo = (false, { L with run := 0 }) := by unfold LineS.undo; rw [q]
      rw [eu] at k
      exact k _ R1 (f1.mono (by simp))
    | some P =>
      obtain ⟨ps, eps⟩ := List.getLast?_eq_some_iff.mp q
      have hpx := hpr
      rw [eps] at hpx
      obtain ⟨rs', r0, er, hp', hP⟩ := paired_last hpx
      have hne0 : (rs.map V.ref).isEmpty = false := by rw [er]; simp
      walk_at "z"
      refine z_ifF (by rw [hne0]; rfl) ?_
      walk_at "z"
      refine ⟨p, lb, ll, _, rfl, R1, fun r hr => ?_⟩
      walk_at "z"
      have B2 : PicsAt (upd (upd H1 r (.tup [.str L.now, .int L.caret, .int L.mark])) ll (.lst (qs.map V.ref ++ [.ref r]))) ll (L.later ++ [L.pic]) := pics_push (P := L.pic) hll hr qs hqs
      have f2 : Fr [ll] H1 (upd (upd H1 r (.tup [.str L.now, .int L.caret, .int L.mark])) ll (.lst (qs.map V.ref ++ [.ref r]))) := Fr.upd (Fr.new Fr.refl hr) (by simp)
      have nr := (ne_of_none hqs hr).symm
      have ho2 := f2 _ _ ho (not_mem1 n2)
      have ha2 := f2 _ _ hrs (not_mem1 hne)
      have hp2 := pics_fr hp' f2 (.cons (nt_lst hqs) nt_nil)
      have hP2 := hP.fr f2 (.cons (nt_lst hqs) nt_nil)
      have hb2 : (upd (upd H1 r (.tup [.str L.now, .int L.caret, .int L.mark])) ll (.lst (qs.map V.ref ++ [.ref r]))) ll = some (.lst (qs.map V.ref ++ [.ref r])) := upd_same
      generalize (upd (upd H1 r (HO.tup [V.str L.now, V.int L.caret, V.int L.mark])) ll (HO.lst (qs.map V.ref ++ [V.ref r]))) = H2 at *
      walk_at "z"
      refine z_pop (y := .ref r0) ha2 (by rw [er]; simp) ?_
      have ed : (rs.map V.ref).dropLast = rs'.map V.ref := by rw [er]; simp
      rw [ed]
      have f3 : Fr [lb] H2 (upd H2 lb (.lst (rs'.map V.ref))) := Fr.upd Fr.refl (by simp)
      have A3 : PicsAt (upd H2 lb (.lst (rs'.map V.ref))) lb ps := ⟨rs', upd_same, pics_fr hp2 f3 (.cons (nt_lst ha2) nt_nil)⟩
      have B3 := B2.fr f3 (.cons (nt_lst ha2) nt_nil) (not_mem1 hne.symm)
      have hP3 := hP2.fr f3 (.cons (nt_lst ha2) nt_nil)
      have ho3 := f3 _ _ ho2 (not_mem1 n1)
      generalize (upd H2 lb (HO.lst (rs'.map V.ref))) = H3 at *
      have R3 : LineAt K H3 p lb ll { L with before := ps, later := L.later ++ [L.pic], run := 0 } := ⟨⟨dx, ho3⟩, A3, B3, hne⟩
      walk_at "z"
      refine ⟨p, lb, ll, r0, _, P, rfl, R3, hP3, fun H4 R4 f4 => ?_⟩
      walk_at "z"
      have eu : L.undo = (true, { L with now := P.txt, caret := P.at_, mark := P.mrk, before := ps, later := L.later ++ [L.pic], run := 0 }) := by
        unfold LineS.undo; rw [q]; simp only [eps, List.dropLast_concat]
      rw [eu] at k
      exact k _ R4 ((f1.mono (by simp)).trans ((f2.mono (by simp)).trans ((f3.mono (by simp)).trans (f4.mono (by simp)))))
end

theorem sc_Line_redo : FnScope ["self"] ["self"] (defScope s_Line_redo) := ⟨rfl, rfl, rfl, by decide +kernel, rfl, by decide +kernel, by decide +kernel⟩
section
variable {P : Program} {w : World} {K : PySem.W.Frag} {mg : Str → Option Value} {base : Heap}
def sp_Line_redo (K : PySem.W.Frag) : Sp := fun vs H Q _ => ∃ (p lb ll : Addr) (L : LineS), vs = [.ref p] ∧ LineAt K H p lb ll L ∧ L.before.length ≤ 100000 ∧ L.later.length ≤ 100000 ∧ ∀ H', LineAt K H' p lb ll L.redo.2 → Fr [p, lb, ll] H H' → Q (.bl L.redo.1) H'
theorem m_Line_redo (T : Tx K mg) : Mt P w K mg base (He.ga K "Line") "redo" 2 ["self"] (sp_Line_redo K) := by
  obtain ⟨fd, F⟩ := T.c.d.def_ 34 (d := d_Line_redo) rfl
  refine ⟨_, fd, F.ok (CX := L2.CX P w) sc_Line_redo (fun vs H Q E h => ?len) (fun cdv A outer s H vs Q E hr h => ?body), T.me_Line_redo, T.cl_Line, F.bindsN fun _ _ _ _ _ _ us hl => match us, hl with | [_], _ => rfl⟩
  case len => obtain ⟨p, lb, ll, L, rfl, R, hbl, hll0, k⟩ := h; rfl
  case body =>
    obtain ⟨p, lb, ll, L, rfl, R, hbl, hll0, k⟩ := h
    refine ⟨_, (pss_cons (ps_put T.cl_Line T.na_Line_run (pv 0) pe_int)
      (pss_cons (ps_if (pt_not (pt_trK (K := K) rfl (pe_get T.cl_Line T.na_Line_later (pv 0)))) (pss_one (ps_ret pe_bl)) pss_nil)
      (pss_cons (ps_expr (pe_bmK (K := K) rfl PySem.F.plainAttrs_list PySem.F.slot_list_append PySem.F.type_list_append mt_append (pe_get T.cl_Line T.na_Line_before (pv 0)) (pa_cons (pe_mt0 (pv 0) (m_Line_picture T) (hr.mono (by decide)) tkOf) pa_nil)))
      (pss_cons (ps_expr (pe_mt (pv 0) (m_Line_show T) (hr.mono (by decide)) tkOf (pa_cons (pe_bm0K (K := K) rfl PySem.F.plainAttrs_list PySem.F.slot_list_pop PySem.F.type_list_pop mt_pop (pe_get T.cl_Line T.na_Line_later (pv 0))) pa_nil)))
      (pss_one (ps_ret pe_bl)))))), ?_⟩
    obtain ⟨⟨dx, ho⟩, hb, hll, hne⟩ := id R
    obtain ⟨n1, n2⟩ := R.nes
    obtain ⟨rs, hrs, hpr⟩ := id hb
    obtain ⟨qs, hqs, hpq⟩ := id hll
    have e1 := paired_len hpr
    have e2 := paired_len hpq
    walk_at "z"
    have f1 : Fr [p] H (upd H p (.ins (He.ga K "Line") dx (putF "run" (.int 0) (lineF L.now L.caret L.mark lb ll L.run)))) := by walk_at "fr"
    have R1 : LineAt K (upd H p (.ins (He.ga K "Line") dx (putF "run" (.int 0) (lineF L.now L.caret L.mark lb ll L.run)))) p lb ll { L with run := 0 } := ⟨⟨dx, by walk_at "h"⟩, hb.fr f1 (.cons (nt_ins ho) nt_nil) (not_mem1 n1.symm), hll.fr f1 (.cons (nt_ins ho) nt_nil) (not_mem1 n2.symm), hne⟩
    have hrs1 := f1 _ _ hrs (not_mem1 n1.symm)
    have hqs1 := f1 _ _ hqs (not_mem1 n2.symm)
    have hpr1 := pics_fr hpr f1 (.cons (nt_ins ho) nt_nil)
    have hpq1 := pics_fr hpq f1 (.cons (nt_ins ho) nt_nil)
    have hb1 : PicsAt _ lb L.before := ⟨rs, hrs1, hpr1⟩
    have hll1 : PicsAt _ ll L.later := ⟨qs, hqs1, hpq1⟩
    have ho1 : upd H p (.ins (He.ga K "Line") dx (putF "run" (.int 0) (lineF L.now L.caret L.mark lb ll L.run))) p = some (.ins (He.ga K "Line") dx (lineF L.now L.caret L.mark lb ll 0)) := by walk_at "h"
    clear ho hb hll hrs hqs hpr hpq
    generalize (upd H p (HO.ins (He.ga K (Str.ofString "Line")) dx (putF (Str.ofString "run") (V.int 0) (lineF L.now L.caret L.mark lb ll L.run)))) = H1 at *
    have ho := ho1
    have hb := hb1
    have hll := hll1
    have hrs := hrs1
    have hqs := hqs1
    have hpr := hpr1
    have hpq := hpq1
    clear ho1 hb1 hll1 hrs1 hqs1 hpr1 hpq1
    cases q : L.later.getLast? with
    | none =>
      have en : L.later = [] := List.getLast?_eq_none_iff.mp q
      have er : qs = [] := by
        rw [en] at e2
        exact List.eq_nil_of_length_eq_zero e2
      subst er
      walk_at "z"
      have eu : L.redo = (false, { L with run := 0 }) := by unfold LineS.redo; rw [q]
      rw [eu] at k
      exact k _ R1 (f1.mono (by simp))
    | some P =>
      obtain ⟨ps, eps⟩ := List.getLast?_eq_some_iff.mp q
      have hpx := hpq
      rw [eps] at hpx
      obtain ⟨rs', r0, er, hp', hP⟩ := paired_last hpx
      have hne0 : (qs.map V.ref).isEmpty = false := by rw [er]; simp
      walk_at "z"
      refine z_ifF (by rw [hne0]; rfl) ?_
      walk_at "z"
      refine ⟨p, lb, ll, _, rfl, R1, fun r hr => ?_⟩
      walk_at "z"
      have B2 : PicsAt (upd (upd H1 r (.tup [.str L.now, .int L.caret, .int L.mark])) lb (.lst (rs.map V.ref ++ [.ref r]))) lb (L.before ++ [L.pic]) := pics_push (P := L.pic) hb hr rs hrs
      have f2 : Fr [lb] H1 (upd (upd H1 r (.tup [.str L.now, .int L.caret, .int L.mark])) lb (.lst (rs.map V.ref ++ [.ref r]))) := Fr.upd (Fr.new Fr.refl hr) (by simp)
      have nr := (ne_of_none hrs hr).symm
      have ho2 := f2 _ _ ho (not_mem1 n1)
      have ha2 := f2 _ _ hqs (not_mem1 hne.symm)
      have hp2 := pics_fr hp' f2 (.cons (nt_lst hrs) nt_nil)
      have hP2 := hP.fr f2 (.cons (nt_lst hrs) nt_nil)
      have hb2 : (upd (upd H1 r (.tup [.str L.now, .int L.caret, .int L.mark])) lb (.lst (rs.map V.ref ++ [.ref r]))) lb = some (.lst (rs.map V.ref ++ [.ref r])) := upd_same
      generalize (upd (upd H1 r (HO.tup [V.str L.now, V.int L.caret, V.int L.mark])) lb (HO.lst (rs.map V.ref ++ [V.ref r]))) = H2 at *
      walk_at "z"
      refine z_pop (y := .ref r0) ha2 (by rw [er]; simp) ?_
      have ed : (qs.map V.ref).dropLast = rs'.map V.ref := by rw [er]; simp
      rw [ed]
      have f3 : Fr [ll] H2 (upd H2 ll (.lst (rs'.map V.ref))) := Fr.upd Fr.refl (by simp)
      have A3 : PicsAt (upd H2 ll (.lst (rs'.map V.ref))) ll ps := ⟨rs', upd_same, pics_fr hp2 f3 (.cons (nt_lst ha2) nt_nil)⟩
      have B3 := B2.fr f3 (.cons (nt_lst ha2) nt_nil) (not_mem1 hne)
      have hP3 := hP2.fr f3 (.cons (nt_lst ha2) nt_nil)
      have ho3 := f3 _ _ ho2 (not_mem1 n2)
      generalize (upd H2 ll (HO.lst (rs'.map V.ref))) = H3 at *
      have R3 : LineAt K H3 p lb ll { L with later := ps, before := L.before ++ [L.pic], run := 0 } := ⟨⟨dx, ho3⟩, B3, A3, hne⟩
      walk_at "z"
      refine ⟨p, lb, ll, r0, _, P, rfl, R3, hP3, fun H4 R4 f4 => ?_⟩
      walk_at "z"
      have eu : L.redo = (true, { L with now := P.txt, caret := P.at_, mark := P.mrk, before := L.before ++ [L.pic], later := ps, run := 0 }) := by
        unfold LineS.redo; rw [q]; simp only [eps, List.dropLast_concat]
      rw [eu] at k
      exact k _ R4 ((f1.mono (by simp)).trans ((f2.mono (by simp)).trans ((f3.mono (by simp)).trans (f4.mono (by simp)))))
end

theorem sc_is_key : FnScope ["key"] ["key"] (defScope s_is_key) := ⟨rfl, rfl, rfl, by decide +kernel, rfl, by decide +kernel, by decide +kernel⟩
section
variable {P : Program} {w : World} {K : PySem.W.Frag} {mg : Str → Option Value} {base : Heap}
def sp_is_key (K : PySem.W.Frag) : Sp := fun vs H Q _ => ∃ key : Str, vs = [.str key] ∧ key.length ≤ sizeLine ∧ Q (.bl (isKey key)) H
theorem f_is_key (T : Tx K mg) : Fn P w K mg base "is_key" 2 ["key"] (sp_is_key K) := by
  obtain ⟨fd, F⟩ := T.c.d.def_ 46 (d := d_is_key) rfl
  refine ⟨_, fd, F.ok (CX := L2.CX P w) sc_is_key (fun vs H Q E h => ?len) (fun cdv A outer s H vs Q E hr h => ?body), T.g_is_key, F.kp, F.bindsN fun _ _ _ _ _ _ us hl => match us, hl with | [_], _ => rfl, FunD.bindsA F fun _ _ _ _ _ _ us hl => match us, hl with | [_], _ => rfl⟩
  case len => obtain ⟨key, rfl, hl, k⟩ := h; rfl
  case body =>
    obtain ⟨key, rfl, hl, k⟩ := h
    refine ⟨_, (pss_cons (ps_if (PW.pt (pw_or (pt_cmpR (op_inK (K := K) rfl) (pv 0) (pe_gref T.g_MOVES) rfl) (pw_or (pt_cmpR (op_inK (K := K) rfl) (pv 0) (pe_gref T.g_CUTS) rfl) (pw_or (pt_cmpR (op_inK (K := K) rfl) (pv 0) (pe_gref T.g_OTHERS) rfl) (pw_or1 (pt_val (pe_fn (f_is_sign T) (hr.mono (by decide)) tkOf (pa_cons (pv 0) pa_nil)))))))) (pss_one (ps_ret pe_bl)) pss_nil)
      (pss_one (ps_ret (pe_and (pe_cmpR op_eq (pe_callB (call_lnK (K := K) rfl) rfl T.n_len boot_len (pa_cons (pv 0) pa_nil)) pe_int (nomark _)) (pe_and (pe_cmpR op_eq (pe_ix ix_str (pv 0) pe_int (fun _ _ => rfl)) pe_str (nomark _)) (pe_one (pe_cmpR op_inStr (pe_ix ix_str (pv 0) pe_int (fun _ _ => rfl)) (pe_gcon T.c_FIGURES) rfl))))))), ?_⟩
    have e := len_tl key
    have ek : isKey key = (decide (key ∈ MOVES) || (decide (key ∈ CUTS) || (decide (key ∈ OTHERS) || (isSign key || isFig key)))) := rfl
    walk_at "z"
    refine z_inT MOVES (T.t_MOVES _) ?_
    walk_at "z"
    refine ite_b (fun h1 => ?_) (fun h1 => ?_)
    · walk_at "z"
      rw [ek, h1] at k
      exact k
    rw [ek, h1, Bool.false_or] at k
    walk_at "z"
    refine z_inT CUTS (T.t_CUTS _) ?_
    walk_at "z"
    refine ite_b (fun h2 => ?_) (fun h2 => ?_)
    · walk_at "z"
      rw [h2] at k
      exact k
    rw [h2, Bool.false_or] at k
    walk_at "z"
    refine z_inT OTHERS (T.t_OTHERS _) ?_
    walk_at "z"
    refine ite_b (fun h3 => ?_) (fun h3 => ?_)
    · walk_at "z"
      rw [h3] at k
      exact k
    rw [h3, Bool.false_or] at k
    walk_at "z"
    refine ⟨key, rfl, hl, ?_⟩
    walk_at "z"
    refine ite_b (fun h4 => ?_) (fun h4 => ?_)
    · walk_at "z"
      rw [h4] at k
      exact k
    rw [h4, Bool.false_or, fig_iff] at k
    walk_at "z"
    have e2 : decide (V.int (key.length : Int) = V.int 2) = decide ((key.length : Int) = 2) := by
      rw [decide_eq_decide]
      exact ⟨fun z => by injection z, fun z => by rw [z]⟩
    rw [e2]
    refine ite_b (fun h5 => ?_) (fun h5 => ?_)
    · rw [h5, Bool.true_and] at k
      have l2 : (tl key).length = 2 := by have := of_decide_eq_true h5; omega
      have g0 : (tl key)[0]? = some ((tl key).getD 0 0) := by rw [List.getD_eq_getElem?_getD, List.getElem?_eq_getElem (by omega)]; rfl
      have g1 : (tl key)[1]? = some ((tl key).getD 1 0) := by rw [List.getD_eq_getElem?_getD, List.getElem?_eq_getElem (by omega)]; rfl
      walk_at "z"
      refine z_ixS hl (atI_nat (j := 0) g0) ?_
      walk_at "z"
      have e3 : decide (V.str ⟨#[(tl key).getD 0 0]⟩ = V.str "#") = decide ((tl key).getD 0 0 = 35) := by
        rw [decide_eq_decide]
        constructor
        · intro z
          injection z with z
          have h2 : [(tl key).getD 0 0] = [35] := str_eq_iff.mp z
          injection h2
        · intro z
          rw [z]; rfl
      rw [e3]
      refine ite_b (fun h6 => ?_) (fun h6 => ?_)
      · rw [h6, Bool.true_and] at k
        walk_at "z"
        refine z_ixS hl (atI_nat (j := 1) g1) ?_
        walk_at "z"
        exact k
      · rw [h6, Bool.false_and] at k
        walk_at "z"
        exact k
    · rw [h5, Bool.false_and] at k
      walk_at "z"
      exact k
end

theorem sc_Search_here : FnScope ["self"] ["self"] (defScope s_Search_here) := ⟨rfl, rfl, rfl, by decide +kernel, rfl, by decide +kernel, by decide +kernel⟩
section
variable {P : Program} {w : World} {K : PySem.W.Frag} {mg : Str → Option Value} {base : Heap}
def sp_Search_here (K : PySem.W.Frag) : Sp := fun vs H Q _ => ∃ (p st : Addr) (q : SrchS), vs = [.ref p] ∧ SrObj K H p st q ∧ q.trail ≠ [] ∧ Q (.int (q.here : Nat)) H
theorem m_Search_here (T : Tx K mg) : Mt P w K mg base (He.ga K "Search") "here" 2 ["self"] (sp_Search_here K) := by
  obtain ⟨fd, F⟩ := T.c.d.def_ 50 (d := d_Search_here) rfl
  refine ⟨_, fd, F.ok (CX := L2.CX P w) sc_Search_here (fun vs H Q E h => ?len) (fun cdv A outer s H vs Q E hr h => ?body), T.me_Search_here, T.cl_Search, F.bindsN fun _ _ _ _ _ _ us hl => match us, hl with | [_], _ => rfl⟩
  case len => obtain ⟨p, st, q, rfl, R, hne, k⟩ := h; rfl
  case body =>
    obtain ⟨p, st, q, rfl, R, hne, k⟩ := h
    refine ⟨_, (pss_one (ps_ret (pe_ifExp (pt_cmpR op_isNon (pe_mt0 (pv 0) (m_Search_found T) (hr.mono (by decide)) tkOf) pe_non (nomark _)) (pe_get T.cl_Search T.na_Search_spot (pv 0)) (pe_mt0 (pv 0) (m_Search_found T) (hr.mono (by decide)) tkOf)))), ?_⟩
    obtain ⟨⟨dx, r, ho, hP⟩, htr⟩ := id R
    unfold SrchS.here at k
    walk_at "z"
    refine ⟨p, st, q, rfl, R, hne, ?_⟩
    cases e : q.last.at_ with
    | none =>
      rw [e] at k
      walk_at "z"
      exact k
    | some j =>
      rw [e] at k
      have eo : optV (some j) = .int (j : Nat) := rfl
      rw [eo]
      walk_at "z"
      refine ⟨p, st, q, rfl, R, hne, ?_⟩
      rw [e]
      exact k
end

theorem sc_Hand_text : FnScope ["self"] ["self"] (defScope s_Hand_text) := ⟨rfl, rfl, rfl, by decide +kernel, rfl, by decide +kernel, by decide +kernel⟩
section
variable {P : Program} {w : World} {K : PySem.W.Frag} {mg : Str → Option Value} {base : Heap}
def sp_Hand_text (K : PySem.W.Frag) : Sp := fun vs H Q _ => ∃ (p : Addr) (A : HA) (Z : HS), vs = [.ref p] ∧ HandAt K H p A Z ∧ Q (.str Z.line.now) H
theorem m_Hand_text (T : Tx K mg) : Mt P w K mg base (He.ga K "Hand") "text" 2 ["self"] (sp_Hand_text K) := by
  obtain ⟨fd, F⟩ := T.c.d.def_ 53 (d := d_Hand_text) rfl
  refine ⟨_, fd, F.ok (CX := L2.CX P w) sc_Hand_text (fun vs H Q E h => ?len) (fun cdv A outer s H vs Q E hr h => ?body), T.me_Hand_text, T.cl_Hand, F.bindsN fun _ _ _ _ _ _ us hl => match us, hl with | [_], _ => rfl⟩
  case len => obtain ⟨p, A, Z, rfl, h, k⟩ := h; rfl
  case body =>
    obtain ⟨p, A, Z, rfl, h, k⟩ := h
    refine ⟨_, (pss_one (ps_ret (pe_mt0 (pe_get T.cl_Hand T.na_Hand_line (pv 0)) (m_Line_text T) (hr.mono (by decide)) tkOf))), ?_⟩
    have ho := h.ob
    obtain ⟨dl, hol⟩ := h.li.ob
    walk_at "z"
    exact ⟨A.pl, A.lb, A.ll, Z.line, rfl, h.li, k⟩
end

theorem sc_Hand_at : FnScope ["self"] ["self"] (defScope s_Hand_at) := ⟨rfl, rfl, rfl, by decide +kernel, rfl, by decide +kernel, by decide +kernel⟩
section
variable {P : Program} {w : World} {K : PySem.W.Frag} {mg : Str → Option Value} {base : Heap}
def sp_Hand_at (K : PySem.W.Frag) : Sp := fun vs H Q _ => ∃ (p : Addr) (A : HA) (Z : HS), vs = [.ref p] ∧ HandAt K H p A Z ∧ Q (.int Z.line.caret) H
theorem m_Hand_at (T : Tx K mg) : Mt P w K mg base (He.ga K "Hand") "at" 2 ["self"] (sp_Hand_at K) := by
  obtain ⟨fd, F⟩ := T.c.d.def_ 54 (d := d_Hand_at) rfl
  refine ⟨_, fd, F.ok (CX := L2.CX P w) sc_Hand_at (fun vs H Q E h => ?len) (fun cdv A outer s H vs Q E hr h => ?body), T.me_Hand_at, T.cl_Hand, F.bindsN fun _ _ _ _ _ _ us hl => match us, hl with | [_], _ => rfl⟩
  case len => obtain ⟨p, A, Z, rfl, h, k⟩ := h; rfl
  case body =>
    obtain ⟨p, A, Z, rfl, h, k⟩ := h
    refine ⟨_, (pss_one (ps_ret (pe_mt0 (pe_get T.cl_Hand T.na_Hand_line (pv 0)) (m_Line_at T) (hr.mono (by decide)) tkOf))), ?_⟩
    have ho := h.ob
    obtain ⟨dl, hol⟩ := h.li.ob
    walk_at "z"
    exact ⟨A.pl, A.lb, A.ll, Z.line, rfl, h.li, k⟩
end

theorem sc_Hand_looked_for : FnScope ["self"] ["self"] (defScope s_Hand_looked_for) := ⟨rfl, rfl, rfl, by decide +kernel, rfl, by decide +kernel, by decide +kernel⟩
section
variable {P : Program} {w : World} {K : PySem.W.Frag} {mg : Str → Option Value} {base : Heap}
def sp_Hand_looked_for (K : PySem.W.Frag) : Sp := fun vs H Q _ => ∃ (p : Addr) (A : HA) (Z : HS), vs = [.ref p] ∧ HandAt K H p A Z ∧ (Z.srch = none → Q .non H) ∧ ∀ q, Z.srch = some q → q.trail ≠ [] ∧ ∀ r, H r = none → Q (.ref r) (upd H r (.tup [.str q.part, .bl q.last.lost]))
theorem m_Hand_looked_for (T : Tx K mg) : Mt P w K mg base (He.ga K "Hand") "looked_for" 2 ["self"] (sp_Hand_looked_for K) := by
  obtain ⟨fd, F⟩ := T.c.d.def_ 57 (d := d_Hand_looked_for) rfl
  refine ⟨_, fd, F.ok (CX := L2.CX P w) sc_Hand_looked_for (fun vs H Q E h => ?len) (fun cdv A outer s H vs Q E hr h => ?body), T.me_Hand_looked_for, T.cl_Hand, F.bindsN fun _ _ _ _ _ _ us hl => match us, hl with | [_], _ => rfl⟩
  case len => obtain ⟨p, A, Z, rfl, h, k1, k2⟩ := h; rfl
  case body =>
    obtain ⟨p, A, Z, rfl, h, k1, k2⟩ := h
    refine ⟨_, (pss_one (ps_ret (pe_ifExp (pt_cmpR op_isNon (pe_get T.cl_Hand T.na_Hand_search (pv 0)) pe_non (nomark _)) pe_non (pe_tup (pa_cons (pe_get T.cl_Search T.na_Search_part (pe_get T.cl_Hand T.na_Hand_search (pv 0))) (pa_cons (pe_mt0 (pe_get T.cl_Hand T.na_Hand_search (pv 0)) (m_Search_is_lost T) (hr.mono (by decide)) tkOf) pa_nil)))))), ?_⟩
    have ho := h.ob
    cases hs : Z.srch with
    | none =>
      obtain ⟨e1, e2⟩ : SrAt K H A.sv A.sfp none := hs ▸ h.sr
      walk_at "z"
      rw [e1]
      walk_at "z"
      exact k1 hs
    | some q =>
      obtain ⟨ps, st, e1, e2, R⟩ : SrAt K H A.sv A.sfp (some q) := hs ▸ h.sr
      obtain ⟨⟨dx, r, hp, hP⟩, htr⟩ := id R
      obtain ⟨hne, k3⟩ := k2 q hs
      unfold handF at ho
      rw [e1] at ho
      walk_at "z"
      refine ⟨ps, st, q, rfl, R, hne, ?_⟩
      walk_at "z"
      exact k3
end

theorem sc__law_mix : FnScope ["script", "k", "number"] ["script", "k"] (defScope s__law_mix) := ⟨rfl, rfl, rfl, by decide +kernel, rfl, by decide +kernel, by decide +kernel⟩
section
variable {P : Program} {w : World} {K : PySem.W.Frag} {mg : Str → Option Value} {base : Heap}
def sp_law_mix (K : PySem.W.Frag) : Sp := fun vs H Q _ => ∃ (a : Addr) (ns : List Int) (k : Int), vs = [.ref a, .int k] ∧ Scr K H a ns ∧ ∀ z : Int, 0 ≤ z → Q (.int z) H
theorem f__law_mix (T : Tx K mg) : Fn P w K mg base "_law_mix" 2 ["script", "k"] (sp_law_mix K) := by
  obtain ⟨fd, F⟩ := T.c.d.def_ 82 (d := d__law_mix) rfl
  refine ⟨_, fd, F.ok (CX := L2.CX P w) sc__law_mix (fun vs H Q E h => ?len) (fun cdv A outer s H vs Q E hr h => ?body), T.g__law_mix, F.kp, F.bindsN fun _ _ _ _ _ _ us hl => match us, hl with | [_, _], _ => rfl, FunD.bindsA F fun _ _ _ _ _ _ us hl => match us, hl with | [_, _], _ => rfl⟩
  case len => obtain ⟨a, ns, n, rfl, hs, k⟩ := h; rfl
  case body =>
    obtain ⟨a, ns, n, rfl, hs, k⟩ := h
    refine ⟨_, (pss_cons (ps_set (i := 2) sc__law_mix.nd rfl (Or.inl rfl) (pe_op op_mod (pe_op op_add (pe_fn (f__law_cell T) (hr.mono (by decide)) tkOf (pa_cons (pv 0) (pa_cons (pv 1) pa_nil))) (pe_op op_mul pe_int (pe_op op_add (pv 1) pe_int))) pe_int))
      (pss_cons (ps_set (i := 2) sc__law_mix.nd rfl (Or.inl rfl) (pe_op op_mod (pe_op op_pow (pv 2) pe_int) pe_int))
      (pss_one (ps_ret (pe_op op_mod (pe_op op_add (pe_op op_mul (pe_op op_fdiv (pv 2) pe_int) pe_int) (pv 2)) pe_int))))), ?_⟩
    walk_at "z"
    refine ⟨a, ns, n, rfl, hs, fun z => ?_⟩
    walk_at "z"
    refine z_i (.inl ⟨by decide, by decide⟩) ?_
    walk_at "z"
    refine z_i (by decide) ?_
    walk_at "z"
    have b1 := Int.emod_nonneg (z + 104729 * (n + 1)) (show (4294967291 : Int) ≠ 0 by decide)
    have b2 := Int.emod_lt_of_pos (z + 104729 * (n + 1)) (show (0 : Int) < 4294967291 by decide)
    refine z_i ⟨by decide, by decide, by omega⟩ ?_
    walk_at "z"
    refine z_i (by decide) ?_
    walk_at "z"
    refine z_i ⟨by decide, by decide⟩ ?_
    walk_at "z"
    refine z_i (.inr ⟨by decide, by decide⟩) ?_
    walk_at "z"
    refine z_i (by decide) ?_
    exact k _ (Int.emod_nonneg _ (by decide))
end

theorem sc__law_end : FnScope ["text", "at", "some", "k"] ["text", "at"] (defScope s__law_end) := ⟨rfl, rfl, rfl, by decide +kernel, rfl, by decide +kernel, by decide +kernel⟩
section
variable {P : Program} {w : World} {K : PySem.W.Frag} {mg : Str → Option Value} {base : Heap}
def sp_law_end (K : PySem.W.Frag) : Sp := fun vs H Q _ => ∃ (x : Str) (a : Int), vs = [.str x, .int a] ∧ okText x = true ∧ LineS.place x a ∧ ∀ H', Same H H' → Q (.int (wEnd (tl x) a.toNat : Nat)) H'
theorem f__law_end (T : Tx K mg) : Fn P w K mg base "_law_end" 2 ["text", "at"] (sp_law_end K) := by
  obtain ⟨fd, F⟩ := T.c.d.def_ 86 (d := d__law_end) rfl
  refine ⟨_, fd, F.ok (CX := L2.CX P w) sc__law_end (fun vs H Q E h => ?len) (fun cdv A outer s H vs Q E hr h => ?body), T.g__law_end, F.kp, F.bindsN fun _ _ _ _ _ _ us hl => match us, hl with | [_, _], _ => rfl, FunD.bindsA F fun _ _ _ _ _ _ us hl => match us, hl with | [_, _], _ => rfl⟩
  case len => obtain ⟨x, a, rfl, ok, pl, k⟩ := h; rfl
  case body =>
    obtain ⟨x, a, rfl, ok, pl, k⟩ := h
    refine ⟨_, (pss_cons (ps_setLc (i := 2) (own := [("k", 3)]) rfl sc__law_end.nd rfl rfl (sw_true rfl rfl rfl (by decide +kernel)) (pi_range2 rfl T.n_range (pa_cons (pe_op op_add (pv 1) pe_int) (pa_cons (pe_op op_add (pe_callB (call_lnK (K := K) rfl) rfl T.n_len boot_len (pa_cons (pv 0) pa_nil)) pe_int) pa_nil))) (blkOk_by (N := ["text", "at", "some", "k"]) (sc := defScope s__law_end) (by decide +kernel)) (fun _ _ _ _ _ => (pg_name (i := 3) sc__law_end.nd rfl (Or.inl rfl))) (fun _ _ _ _ _ => (pts_one (PW.pt (pw_and (pt_val (pe_fn (f__law_letter T) (hr.mono (by decide)) takes0 (pa_cons (pv 0) (pa_cons (pe_op op_sub (pv 3) pe_int) pa_nil)))) (pw_and1 (pt_not (pt_val (pe_fn (f__law_letter T) (hr.mono (by decide)) takes0 (pa_cons (pv 0) (pa_cons (pv 3) pa_nil)))))))))) (fun _ _ _ _ _ => (pv 3)))
      (pss_one (ps_ret (pe_callB (cr_minK (K := K) rfl rfl) rfl T.n_min (by decide +kernel) (pa_cons (pe_op op_cat (pv 2) (pe_lst (pa_cons (pe_callB (call_lnK (K := K) rfl) rfl T.n_len boot_len (pa_cons (pv 0) pa_nil)) pa_nil))) pa_nil))))), ?_⟩
    have e := len_tl x
    have hl := okText_len ok
    obtain ⟨n, rfl⟩ := Int.eq_ofNat_of_zero_le pl.1
    have hn : n ≤ (tl x).length := by have := pl.2; omega
    clear pl
    rw [show ((n : Int)).toNat = n by omega] at k
    walk_at "z"
    refine z_rng2e (by omega) ?_
    intro D hD
    refine lc_rngP (fun i => letAt (tl x) ((n : Int) + 1 + (i : Nat) - 1) && !letAt (tl x) ((n : Int) + 1 + (i : Nat))) (fun i => .int ((n : Int) + 1 + (i : Nat))) (by omega) (by intro v; rfl) hD ?_ ?_ ?_
    · intro i H2 Q2 hi s2 q
      walk_at "z"
      refine ⟨x, _, rfl, ok, ?_⟩
      walk_at "z"
      refine ite_b (fun h1 => ?_) (fun h1 => ?_)
      · rw [h1, Bool.true_and] at q
        walk_at "z"
        refine ⟨x, _, rfl, ok, ?_⟩
        walk_at "z"
        exact q
      · rw [h1, Bool.false_and] at q
        exact q
    · intro i H2 Q2 hi hf s2 q
      walk_at "z"
      exact q
    generalize hL : (List.range ((x.length : Int) + 1 - ((n : Int) + 1)).toNat).filter (fun i => letAt (tl x) ((n : Int) + 1 + (i : Nat) - 1) && !letAt (tl x) ((n : Int) + 1 + (i : Nat))) = L
    have hLl : L.length ≤ 400 := by
      rw [← hL]
      refine Nat.le_trans (List.length_filter_le _ _) ?_
      rw [List.length_range]; omega
    walk_at "z"
    intro q1 hq1
    walk_at "z"
    intro q2 hq2
    walk_at "z"
    refine ⟨q2, L.map (fun i => (n : Int) + 1 + (i : Nat)) ++ [(x.length : Int)], rfl, SqL.of (by rw [upd_same, List.map_append, List.map_map]; rfl), by simp, fun m hm hmin => ?_⟩
    have hm' : m = (wEnd (tl x) n : Nat) := by
      obtain ⟨b1, b2⟩ := wBeg_le hn
      obtain ⟨e1, e2⟩ := wEnd_le hn
      have h1 : ((wEnd (tl x) n : Nat) : Int) ∈ L.map (fun i => (n : Int) + 1 + (i : Nat)) ++ [(x.length : Int)] := by
        rcases wEnd_in hn with z | ⟨z1, z2, z3, z4⟩
        · rw [z]; simp [e]
        · refine List.mem_append_left _ (List.mem_map.mpr ⟨wEnd (tl x) n - (n + 1), ?_, by omega⟩)
          rw [← hL, List.mem_filter, List.mem_range]
          refine ⟨by omega, ?_⟩
          rw [show (n : Int) + 1 + ((wEnd (tl x) n - (n + 1) : Nat) : Int) = (wEnd (tl x) n : Nat) by omega, z3, z4]; rfl
      have h2 := hmin _ h1
      refine Int.le_antisymm h2 ?_
      rcases List.mem_append.mp hm with z | z
      · obtain ⟨i, hi, rfl⟩ := List.mem_map.mp z
        rw [← hL, List.mem_filter, List.mem_range, Bool.and_eq_true] at hi
        obtain ⟨hi1, hi2, hi3⟩ := hi
        rw [show (n : Int) + 1 + (i : Nat) = ((n + 1 + i : Nat) : Int) by omega] at hi2 hi3 ⊢
        have := wEnd_min hn (k := n + 1 + i) (by omega) hi2 (by simpa using hi3)
        omega
      · rw [List.mem_singleton.mp z]; omega
    rw [hm']
    exact k _ (by walk_at "sa")
end

theorem sc__law_start : FnScope ["text", "at", "some", "k"] ["text", "at"] (defScope s__law_start) := ⟨rfl, rfl, rfl, by decide +kernel, rfl, by decide +kernel, by decide +kernel⟩
section
variable {P : Program} {w : World} {K : PySem.W.Frag} {mg : Str → Option Value} {base : Heap}
def sp_law_start (K : PySem.W.Frag) : Sp := fun vs H Q _ => ∃ (x : Str) (a : Int), vs = [.str x, .int a] ∧ okText x = true ∧ LineS.place x a ∧ ∀ H', Same H H' → Q (.int (wStart (tl x) a.toNat : Nat)) H'
theorem f__law_start (T : Tx K mg) : Fn P w K mg base "_law_start" 2 ["text", "at"] (sp_law_start K) := by
  obtain ⟨fd, F⟩ := T.c.d.def_ 87 (d := d__law_start) rfl
  refine ⟨_, fd, F.ok (CX := L2.CX P w) sc__law_start (fun vs H Q E h => ?len) (fun cdv A outer s H vs Q E hr h => ?body), T.g__law_start, F.kp, F.bindsN fun _ _ _ _ _ _ us hl => match us, hl with | [_, _], _ => rfl, FunD.bindsA F fun _ _ _ _ _ _ us hl => match us, hl with | [_, _], _ => rfl⟩
  case len => obtain ⟨x, a, rfl, ok, pl, k⟩ := h; rfl
  case body =>
    obtain ⟨x, a, rfl, ok, pl, k⟩ := h
    refine ⟨_, (pss_cons (ps_setLc (i := 2) (own := [("k", 3)]) rfl sc__law_start.nd rfl rfl (sw_true rfl rfl rfl (by decide +kernel)) (pi_range1 rfl T.n_range (pa_cons (pv 1) pa_nil)) (blkOk_by (N := ["text", "at", "some", "k"]) (sc := defScope s__law_start) (by decide +kernel)) (fun _ _ _ _ _ => (pg_name (i := 3) sc__law_start.nd rfl (Or.inl rfl))) (fun _ _ _ _ _ => (pts_one (PW.pt (pw_and (pt_val (pe_fn (f__law_letter T) (hr.mono (by decide)) takes0 (pa_cons (pv 0) (pa_cons (pv 3) pa_nil)))) (pw_and1 (pt_not (pt_val (pe_fn (f__law_letter T) (hr.mono (by decide)) takes0 (pa_cons (pv 0) (pa_cons (pe_op op_sub (pv 3) pe_int) pa_nil)))))))))) (fun _ _ _ _ _ => (pv 3)))
      (pss_one (ps_ret (pe_callB (cr_maxK (K := K) rfl rfl) rfl T.n_max (by decide +kernel) (pa_cons (pe_op op_cat (pv 2) (pe_lst (pa_cons pe_int pa_nil))) pa_nil))))), ?_⟩
    have e := len_tl x
    have hl := okText_len ok
    obtain ⟨n, rfl⟩ := Int.eq_ofNat_of_zero_le pl.1
    have hn : n ≤ (tl x).length := by have := pl.2; omega
    clear pl
    rw [show ((n : Int)).toNat = n by omega] at k
    walk_at "z"
    refine z_rng1e (by omega) (by omega) ?_
    rw [show ((n : Int)).toNat = n by omega]
    intro D hD
    refine lc_rngP (fun i => letAt (tl x) (0 + (i : Nat)) && !letAt (tl x) (0 + (i : Nat) - 1)) (fun i => .int (0 + (i : Nat))) (by omega) (by intro v; rfl) hD ?_ ?_ ?_
    · intro i H2 Q2 hi s2 q
      walk_at "z"
      refine ⟨x, _, rfl, ok, ?_⟩
      walk_at "z"
      refine ite_b (fun h1 => ?_) (fun h1 => ?_)
      · rw [h1, Bool.true_and] at q
        walk_at "z"
        refine ⟨x, _, rfl, ok, ?_⟩
        walk_at "z"
        exact q
      · rw [h1, Bool.false_and] at q
        exact q
    · intro i H2 Q2 hi hf s2 q
      walk_at "z"
      exact q
    generalize hL : (List.range n).filter (fun i => letAt (tl x) (0 + (i : Nat)) && !letAt (tl x) (0 + (i : Nat) - 1)) = L
    have hLl : L.length ≤ 400 := by
      rw [← hL]
      refine Nat.le_trans (List.length_filter_le _ _) ?_
      rw [List.length_range]; omega
    walk_at "z"
    intro q1 hq1
    walk_at "z"
    intro q2 hq2
    walk_at "z"
    refine ⟨q2, L.map (fun i => 0 + ((i : Nat) : Int)) ++ [0], rfl, SqL.of (by rw [upd_same, List.map_append, List.map_map]; rfl), by simp, fun m hm hmax => ?_⟩
    have hm' : m = (wStart (tl x) n : Nat) := by
      have h1 : ((wStart (tl x) n : Nat) : Int) ∈ L.map (fun i => 0 + ((i : Nat) : Int)) ++ [0] := by
        rcases wStart_in (l := tl x) (a := n) with z | ⟨z1, z2, z3⟩
        · rw [z]; simp
        · refine List.mem_append_left _ (List.mem_map.mpr ⟨wStart (tl x) n, ?_, by omega⟩)
          rw [← hL, List.mem_filter, List.mem_range]
          refine ⟨by omega, ?_⟩
          rw [show (0 : Int) + (wStart (tl x) n : Nat) = (wStart (tl x) n : Nat) by omega, z2, z3]; rfl
      have h2 := hmax _ h1
      refine Int.le_antisymm ?_ h2
      rcases List.mem_append.mp hm with z | z
      · obtain ⟨i, hi, rfl⟩ := List.mem_map.mp z
        rw [← hL, List.mem_filter, List.mem_range, Bool.and_eq_true] at hi
        obtain ⟨hi1, hi2, hi3⟩ := hi
        rw [show (0 : Int) + (i : Nat) = (i : Nat) by omega] at hi2 hi3 ⊢
        have := wStart_max hi1 hi2 (by simpa using hi3)
        omega
      · rw [List.mem_singleton.mp z]; omega
    rw [hm']
    exact k _ (by walk_at "sa")
end

theorem sc__law_put : FnScope ["state", "first", "last", "new", "caret"] ["state", "first", "last", "new", "caret"] (defScope s__law_put) := ⟨rfl, rfl, rfl, by decide +kernel, rfl, by decide +kernel, by decide +kernel⟩
section
variable {P : Program} {w : World} {K : PySem.W.Frag} {mg : Str → Option Value} {base : Heap}
def sp_law_put (K : PySem.W.Frag) : Sp := fun vs H Q _ => ∃ (d sb sl : Addr) (kvs : List (Key × V)) (M : LineS) (f l c : Int) (new : Str), vs = [.ref d, .int f, .int l, .str new, .int c] ∧ StAt H d sb sl kvs M ∧ M.now.length ≤ 1000 ∧ new.length ≤ 1000 ∧ 0 ≤ f ∧ f ≤ l ∧ M.before.length ≤ 100000 ∧ ∀ H' sl' kvs', H sl' = none → StAt H' d sb sl' kvs' (M.change f l new c) → Ex stK kvs kvs' → Fr [d, sb] H H' → Q .non H'
theorem f__law_put (T : Tx K mg) : Fn P w K mg base "_law_put" 2 ["state", "first", "last", "new", "caret"] (sp_law_put K) := by
  obtain ⟨fd, F⟩ := T.c.d.def_ 89 (d := d__law_put) rfl
  refine ⟨_, fd, F.ok (CX := L2.CX P w) sc__law_put (fun vs H Q E h => ?len) (fun cdv A outer s H vs Q E hr h => ?body), T.g__law_put, F.kp, F.bindsN fun _ _ _ _ _ _ us hl => match us, hl with | [_, _, _, _, _], _ => rfl, FunD.bindsA F fun _ _ _ _ _ _ us hl => match us, hl with | [_, _, _, _, _], _ => rfl⟩
  case len => obtain ⟨d, sb, sl, kvs, M, f, l, c, new, rfl, R, hl, hn, hf, hfl, hbl, k⟩ := h; rfl
  case body =>
    obtain ⟨d, sb, sl, kvs, M, f, l, c, new, rfl, R, hl, hn, hf, hfl, hbl, k⟩ := h
    have hu := hu_of hr
    refine ⟨_, (pss_cons (ps_expr (pe_bmK (K := K) rfl PySem.F.plainAttrs_list PySem.F.slot_list_append PySem.F.type_list_append mt_append (pe_dget hu (pv 0) pe_str (fun _ _ => rfl)) (pa_cons (pe_dget hu (pv 0) pe_str (fun _ _ => rfl)) pa_nil)))
      (pss_cons (ps_dput hu (pv 0) pe_str (pe_lst pa_nil) rfl)
      (pss_cons (ps_dput hu (pv 0) pe_str pe_int rfl)
      (pss_one (ps_expr (pe_fn (f__law_set T) (hr.mono (by decide)) tkOf (pa_cons (pv 0) (pa_cons (pv 1) (pa_cons (pv 2) (pa_cons (pv 3) (pa_cons (pv 4) pa_nil))))))))))), ?_⟩
    obtain ⟨ho, hlen, ⟨r, hr, hp0⟩, kb, kl, kr, hb, hll, hne⟩ := id R
    obtain ⟨n1, n2⟩ := R.nes
    obtain ⟨rs, hrs, hpr⟩ := id hb
    have e1 := paired_len hpr
    walk_at "z"
    have R1 := R.push hr hrs
    intro l2 hl2
    obtain ⟨n3, hl2'⟩ := un_fresh hl2
    have nd := (ne_of_none ho hl2')
    have R2 := R1.same (Same.new (Same.refl _) hl2 (o := .lst []))
    have R3 := R2.putLater (b := l2) (ps := []) ⟨[], upd_same, .nil⟩ nd n3.symm
    have R4 := R3.putRun 0
    walk_at "z"
    refine ⟨d, sb, l2, _, _, f, l, c, new, rfl, R4, hl, hn, hf, hfl, fun H' kvs' R' ex' f' => k H' l2 kvs' hl2' R' ?_ ?_⟩
    · exact Ex.trans (by walk_at "ex") ex'
    · refine Fr.trans ?_ (f'.mono (by simp))
      walk_at "fr"
end

theorem sc__law_sign : FnScope ["state", "key", "text", "at", "mark"] ["state", "key"] (defScope s__law_sign) := ⟨rfl, rfl, rfl, by decide +kernel, rfl, by decide +kernel, by decide +kernel⟩
section
variable {P : Program} {w : World} {K : PySem.W.Frag} {mg : Str → Option Value} {base : Heap}
def sp_law_sign (K : PySem.W.Frag) : Sp := fun vs H Q _ => ∃ (d sb sl : Addr) (kvs : List (Key × V)) (M : LineS) (key : Str), vs = [.ref d, .str key] ∧ StAt H d sb sl kvs M ∧ M.now.length ≤ 400 ∧ 0 ≤ M.caret ∧ isSign key = true ∧ M.before.length ≤ 100000 ∧ ∀ H' sl' kvs', sl' = sl ∨ H sl' = none → StAt H' d sb sl' kvs' (if M.now.length < 400 then M.write key else M) → Ex stK kvs kvs' → Fr [d, sb] H H' → Q .non H'
theorem f__law_sign (T : Tx K mg) : Fn P w K mg base "_law_sign" 2 ["state", "key"] (sp_law_sign K) := by
  obtain ⟨fd, F⟩ := T.c.d.def_ 93 (d := d__law_sign) rfl
  refine ⟨_, fd, F.ok (CX := L2.CX P w) sc__law_sign (fun vs H Q E h => ?len) (fun cdv A outer s H vs Q E hr h => ?body), T.g__law_sign, F.kp, F.bindsN fun _ _ _ _ _ _ us hl => match us, hl with | [_, _], _ => rfl, FunD.bindsA F fun _ _ _ _ _ _ us hl => match us, hl with | [_, _], _ => rfl⟩
  case len => obtain ⟨d, sb, sl, kvs, M, key, rfl, R, hl, hc, hk, hbl, k⟩ := h; rfl
  case body =>
    obtain ⟨d, sb, sl, kvs, M, key, rfl, R, hl, hc, hk, hbl, k⟩ := h
    have hu := hu_of hr
    refine ⟨_, (pss_cons (ps_asg (pe_dget hu (pv 0) pe_str (fun _ _ => rfl)) (pg_tupK (K := K) (n := 3) rfl rfl (pgs_cons (pg_name (i := 2) sc__law_sign.nd rfl (Or.inl rfl)) (pgs_cons (pg_name (i := 3) sc__law_sign.nd rfl (Or.inl rfl)) (pgs_cons (pg_name (i := 4) sc__law_sign.nd rfl (Or.inl rfl)) pgs_nil)))))
      (pss_cons (ps_if (pt_cmpR op_ge (pe_callB (call_lnK (K := K) rfl) rfl T.n_len boot_len (pa_cons (pv 2) pa_nil)) pe_int (nomark _)) (pss_one ps_retN) pss_nil)
      (Evl.pss_cut (ps_if (pt_cmpR (op_inK (K := K) rfl) (pe_dget hu (pv 0) pe_str (fun _ _ => rfl)) (pe_tup (pa_cons pe_int (pa_cons pe_int pa_nil))) rfl) (pss_cons (ps_expr (pe_bmK (K := K) rfl PySem.F.plainAttrs_list PySem.F.slot_list_append PySem.F.type_list_append mt_append (pe_dget hu (pv 0) pe_str (fun _ _ => rfl)) (pa_cons (pe_dget hu (pv 0) pe_str (fun _ _ => rfl)) pa_nil)))
      (pss_one (ps_dput hu (pv 0) pe_str pe_int rfl))) pss_nil)
      (pss_cons (ps_dput hu (pv 0) pe_str (pe_op op_add (pe_dget hu (pv 0) pe_str (fun _ _ => rfl)) pe_int) rfl)
      (pss_cons (ps_dput hu (pv 0) pe_str (pe_lst pa_nil) rfl)
      (pss_one (ps_expr (pe_fn (f__law_set T) (hr.mono (by decide)) tkOf (pa_cons (pv 0) (pa_cons (pv 3) (pa_cons (pv 3) (pa_cons (pv 1) (pa_cons (pe_op op_add (pv 3) pe_int) pa_nil))))))))))))), ?_⟩
    obtain ⟨ho, hlen, ⟨r, hr, hp0⟩, kb, kl, kr, hb, hll, hne⟩ := id R
    obtain ⟨n1, n2⟩ := R.nes
    have hp : H r = some (.tup [.str M.now, .int M.caret, .int M.mark]) := hp0
    obtain ⟨c0, rfl, hc0⟩ := sign_len hk
    have l1 : (S [c0]).length = 1 := rfl
    walk_at "z"
    refine ite_b (fun h1 => ?_) (fun h1 => ?_)
    · have h1' := of_decide_eq_true h1
      walk_at "z"
      refine k H sl kvs (.inl rfl) ?_ ex_refl Fr.refl
      rw [if_neg (by omega)]; exact R
    have h1' := of_decide_eq_false h1
    rw [if_pos (by omega)] at k
    walk_at "z"
    refine z_cut (fun σ' H' => ∃ (M1 : LineS) (kvs1 : List (Key × V)), σ' = [some (.ref d), some (.str (S [c0])), some (.str M.now), some (.int M.caret), some (.int M.mark)] ∧ StAt H' d sb sl kvs1 M1 ∧ Ex stK kvs kvs1 ∧ Fr [d, sb] H H' ∧ M1.now = M.now ∧ ({ M1 with run := M1.run + 1, later := [] } : LineS).replace M.caret M.caret (S [c0]) (M.caret + 1) = M.write (S [c0])) ?_ ?_
    · walk_at "z"
      intro tp htp
      walk_at "z"
      have eI : inV (.int M.run) [.int 0, .int 20] = decide (M.run = 0 ∨ M.run = 20) := by
        unfold inV
        by_cases a0 : M.run = 0
        · simp [eqV, a0]
        · by_cases a1 : M.run = 20
          · simp [eqV, a1]
          · have b0 : ¬ (0 : Int) = M.run := fun z => a0 z.symm
            have b1 : ¬ (20 : Int) = M.run := fun z => a1 z.symm
            simp [eqV, a0, a1, b0, b1]
      rw [if_neg Bool.false_ne_true, eI]
      have s1 : Same H (upd H tp (.tup [.int 0, .int 20])) := by walk_at "sa"
      have R1 := R.same s1
      generalize upd H tp _ = H1 at s1 R1 ⊢
      obtain ⟨ho1, _, _, _, _, _, ⟨rs, hrs, hpr⟩, _, _⟩ := id R1
      have e1 := paired_len hpr
      by_cases g : M.run = 0 ∨ M.run = 20
      · rw [decide_eq_true g]
        walk_at "z"
        have R2 := (R1.push hr hrs).putRun 0
        refine ⟨_, _, rfl, R2, by walk_at "ex", Fr.upd (Fr.upd (Fr.same s1) (by simp)) (by simp), rfl, ?_⟩
        unfold LineS.write; rw [if_pos g]; rfl
      · rw [decide_eq_false g]
        walk_at "z"
        refine ⟨_, _, rfl, R1, ex_refl, Fr.same s1, rfl, ?_⟩
        unfold LineS.write; rw [if_neg g]; rfl
    rintro σ' H1 ⟨M1, kvs1, rfl, R1, ex1, f1, eN, eW⟩
    obtain ⟨ho1, hlen1, _, kb1, kl1, kr1, ⟨rs, hrs, _⟩, _, _⟩ := id R1
    walk_at "z"
    intro l2 hl2
    obtain ⟨n3, hl2'⟩ := un_fresh hl2
    have nsb : sb ≠ l2 := ne_of_none hrs hl2'
    have R2 := (R1.putRun (M1.run + 1)).same (Same.new (Same.refl _) hl2 (o := .lst []))
    have R3 := R2.putLater (b := l2) (ps := []) ⟨[], upd_same, .nil⟩ n3.symm nsb
    walk_at "z"
    refine ⟨d, sb, l2, _, _, M.caret, M.caret, M.caret + 1, S [c0], rfl, R3, by show M1.now.length ≤ 1000; rw [eN]; omega, by rw [l1]; decide, hc, Int.le_refl _, fun H' kvs' R' ex' f' => k H' l2 kvs' (.inr ?_) (eW ▸ R') ?_ ?_⟩
    · exact f1.free hl2' (by simp only [List.mem_cons, List.not_mem_nil, or_false, not_or]; exact ⟨n3, nsb.symm⟩)
    · exact ex1.trans (Ex.trans (by walk_at "ex") ex')
    · refine f1.trans (Fr.trans ?_ (f'.mono (by simp)))
      walk_at "fr"
end

theorem sc__law_recall : FnScope ["state", "key", "goal"] ["state", "key"] (defScope s__law_recall) := ⟨rfl, rfl, rfl, by decide +kernel, rfl, by decide +kernel, by decide +kernel⟩
section
variable {P : Program} {w : World} {K : PySem.W.Frag} {mg : Str → Option Value} {base : Heap}
def sp_law_recall (K : PySem.W.Frag) : Sp := fun vs H Q _ => ∃ (d sb sl lk ls lt : Addr) (kvs : List (Key × V)) (M : LineS) (q : HistS) (ent : List Str) (key : Str), vs = [.ref d, .str key] ∧ S2 H d sb sl lk ls lt kvs M q ent ∧ (key = "up" ∨ key = "down") ∧ QOk q ∧ okText M.now = true ∧ ∀ H' sb' sl' kvs', (sb' = sb ∨ H sb' = none) → (sl' = sl ∨ H sl' = none) → S2 H' d sb' sl' lk ls lt kvs' (recallL M q ((q.spot : Int) + (if key = "down" then 1 else -1))).1 (recallL M q ((q.spot : Int) + (if key = "down" then 1 else -1))).2 ent → Ex s2K kvs kvs' → Fr [d, sb, sl, lk, ls, lt] H H' → Q .non H'
theorem f__law_recall (T : Tx K mg) : Fn P w K mg base "_law_recall" 2 ["state", "key"] (sp_law_recall K) := by
  obtain ⟨fd, F⟩ := T.c.d.def_ 97 (d := d__law_recall) rfl
  refine ⟨_, fd, F.ok (CX := L2.CX P w) sc__law_recall (fun vs H Q E h => ?len) (fun cdv A outer s H vs Q E hr h => ?body), T.g__law_recall, F.kp, F.bindsN fun _ _ _ _ _ _ us hl => match us, hl with | [_, _], _ => rfl, FunD.bindsA F fun _ _ _ _ _ _ us hl => match us, hl with | [_, _], _ => rfl⟩
  case len => obtain ⟨d, sb, sl, lk, ls, lt, kvs, M, q, ent, key, rfl, R, hkey, hQ, tx, k⟩ := h; rfl
  case body =>
    obtain ⟨d, sb, sl, lk, ls, lt, kvs, M, q, ent, key, rfl, R, hkey, hQ, tx, k⟩ := h
    have hu := hu_of hr
    refine ⟨_, (Evl.pss_cut (ps_set (i := 2) sc__law_recall.nd rfl (Or.inl rfl) (pe_op op_add (pe_dget hu (pv 0) pe_str (fun _ _ => rfl)) (pe_ix (ix_listK (K := K) rfl) (pe_lst (pa_cons (pe_un un_neg pe_int) (pa_cons pe_int pa_nil))) (pe_callTy call_int1N rfl T.n_int (by decide +kernel) (pa_cons (pe_cmpR op_eq (pv 1) pe_str (nomark _)) pa_nil)) (fun _ _ => rfl))))
      (pss_cons (ps_dput hu (pv 0) pe_str pe_int rfl)
      (pss_one (ps_if (pt_chain op_le op_le pe_int (pv 2) (pe_callB (call_lnK (K := K) rfl) rfl T.n_len boot_len (pa_cons (pe_dget hu (pv 0) pe_str (fun _ _ => rfl)) pa_nil))) (pss_cons (ps_asg (pe_ix (ix_tupK (K := K) rfl) (pe_dget hu (pv 0) pe_str (fun _ _ => rfl)) pe_int (fun _ _ => rfl)) (pg_sub (pe_dget hu (pv 0) pe_str (fun _ _ => rfl)) (pe_dget hu (pv 0) pe_str (fun _ _ => rfl)) set_list))
      (pss_cons (ps_dput hu (pv 0) pe_str (pv 2) rfl)
      (pss_one (ps_expr (pe_fn (f__law_load T) (hr.mono (by decide)) tkOf (pa_cons (pv 0) (pa_cons (pe_ix (ix_listK (K := K) rfl) (pe_dget hu (pv 0) pe_str (fun _ _ => rfl)) (pv 2) (fun _ _ => rfl)) pa_nil))))))) pss_nil)))), ?_⟩
    have ho := R.st.ob
    have hlen := R.st.len
    have kh := R.kh
    have hql := hQ.l
    refine z_cut (fun σ' H' => σ' = [some (.ref d), some (.str key), some (.int ((q.spot : Int) + (if key = "down" then 1 else -1)))] ∧ Same H H') ?_ ?_
    · walk_at "z"
      intro l1 hl1
      rcases hkey with rfl | rfl
      · walk_at "z"
        refine z_ixL (n := 0) (v := .int (-1)) (SqL.of upd_same) rfl ?_
        walk_at "z"
        exact ⟨rfl, Same.new (Same.refl _) hl1⟩
      · walk_at "z"
        refine z_ixL (n := 1) (v := .int 1) (SqL.of upd_same) rfl ?_
        walk_at "z"
        exact ⟨rfl, Same.new (Same.refl _) hl1⟩
    rintro σ' H1 ⟨rfl, s1⟩
    have R1 := R.same s1
    generalize (q.spot : Int) + (if key = "down" then 1 else -1) = g at *
    clear ho
    have ho := R1.st.ob
    have kk := R1.kk
    have hk1 := R1.hk
    walk_at "z"
    have R2 := R1.edit (R1.st.putRun 0) (.inl rfl) (.inl rfl) (by walk_at "ex") (Fr.upd Fr.refl (by simp))
    change S2 _ d sb sl lk ls lt _ M.rest q ent at R2
    have x2 : Ex s2K kvs (putK kvs (.inr "run") (.int 0)) := ex_s2 (by walk_at "ex")
    have f2 : Fr [d, sb, sl, lk, ls, lt] H (upd H1 d (.dK (putK kvs (.inr "run") (.int 0)))) := Fr.upd (Fr.same s1) (by simp)
    clear ho kk hk1 kh R1
    generalize upd H1 d _ = H2 at R2 f2 ⊢
    have no : ¬ (0 ≤ g ∧ g ≤ (q.kept.length : Int)) → Q .non H2 := fun z => by
      have e : recallL M q g = (M.rest, q) := by unfold recallL; rw [if_neg z]
      rw [e] at k
      exact k H2 sb sl _ (.inl rfl) (.inl rfl) R2 x2 f2
    generalize putK kvs (.inr (Str.ofString "run")) (.int 0) = kv2 at *
    have ho := R2.st.ob
    have kk := R2.kk
    have hk1 := R2.hk
    refine ite_b (fun g1 => ?_) (fun g1 => ?_)
    · have g1' := of_decide_eq_true g1
      walk_at "z"
      rw [List.length_map]
      refine ite_b (fun g2 => ?_) (fun g2 => ?_)
      · have g2' := of_decide_eq_true g2
        obtain ⟨r, hr, hp0⟩ := R2.st.now
        have hp : H2 r = some (.tup [.str M.now, .int M.caret, .int M.mark]) := hp0
        have ks2 := R2.ks
        have kh2 := R2.kh
        obtain ⟨j, rfl⟩ := Int.eq_ofNat_of_zero_le g1'
        have hj : j < (q.shown.set q.spot M.now).length := by rw [List.length_set, hQ.m]; omega
        have e : recallL M q (j : Nat) = (LineS.fresh ((q.shown.set q.spot M.now).getD j ""), { q.keep M.now with spot := j }) := by
          unfold recallL
          rw [if_pos ⟨g1', g2'⟩]; rfl
        rw [e] at k
        walk_at "z"
        refine z_setL (j := q.spot) R2.hs (Evl.ixN_nat (by rw [List.length_map, hQ.m]; have := hQ.p; omega)) ?_
        rw [← List.map_set]
        have R3 := R2.setShown (q.shown.set q.spot M.now)
        have f3 : Fr [d, sb, sl, lk, ls, lt] H (upd H2 ls (.lst ((q.shown.set q.spot M.now).map V.str))) := Fr.upd f2 (by simp)
        clear ho kk hk1 hp hp0 R2 f2
        generalize upd H2 ls _ = H3 at R3 f3 ⊢
        have ho := R3.st.ob
        have hlen3 := R3.st.len
        walk_at "z"
        have R4 := R3.putHere j
        have f4 : Fr [d, sb, sl, lk, ls, lt] H (upd H3 d (.dK (putK kv2 (.inr "here") (.int (j : Nat))))) := Fr.upd f3 (by simp)
        have x4 : Ex s2K kvs (putK kv2 (.inr "here") (.int (j : Nat))) := x2.trans (Ex.put ex_refl (by decide))
        clear R3 ho f3
        have hlen4 := R4.st.len
        generalize putK kv2 (.inr (Str.ofString "here")) (.int (j : Nat)) = kv4 at *
        generalize upd H3 d _ = H4 at R4 f4 ⊢
        have ho := R4.st.ob
        have ks4 := R4.ks
        walk_at "z"
        have hg : (q.shown.set q.spot M.now)[j]? = some ((q.shown.set q.spot M.now).getD j "") := by rw [List.getD_eq_getElem?_getD, List.getElem?_eq_getElem hj]; rfl
        refine z_ixL (v := .str ((q.shown.set q.spot M.now).getD j "")) (SqL.of R4.hs) (atI_nat (by rw [List.getElem?_map, hg]; rfl)) ?_
        walk_at "z"
        have okx : okText ((q.shown.set q.spot M.now).getD j "") = true := by
          refine HS.getD_ok fun t ht => ?_
          rcases List.mem_or_eq_of_mem_set ht with z | z
          · exact hQ.s t z
          · rw [z]; exact tx
        have l4 := okText_len okx
        refine ⟨d, sb, sl, kv4, _, _, rfl, R4.st, by omega, fun H5 sb5 sl5 kv5 hb5 hl5 R5 x5 f5 => ?_⟩
        walk_at "z"
        refine k H5 sb5 sl5 kv5 (.inr ?_) (.inr ?_) (R4.edit R5 (.inr hb5) (.inr hl5) x5 (f5.mono (by simp))) (x4.trans (ex_s2 x5)) (f4.trans (f5.mono (by simp)))
        · exact f4.freeA R4.alive hb5
        · exact f4.freeA R4.alive hl5
      · have g2' := of_decide_eq_false g2
        walk_at "z"
        exact no fun z => g2' z.2
    · have g1' := of_decide_eq_false g1
      walk_at "z"
      exact no fun z => g1' z.1
end

theorem sc__law_enter : FnScope ["state", "text"] ["state"] (defScope s__law_enter) := ⟨rfl, rfl, rfl, by decide +kernel, rfl, by decide +kernel, by decide +kernel⟩
section
variable {P : Program} {w : World} {K : PySem.W.Frag} {mg : Str → Option Value} {base : Heap}
def sp_law_enter (K : PySem.W.Frag) : Sp := fun vs H Q _ => ∃ (d sb sl lk ls lt : Addr) (kvs : List (Key × V)) (M : LineS) (q : HistS) (ent : List Str), vs = [.ref d] ∧ S2 H d sb sl lk ls lt kvs M q ent ∧ QOk q ∧ okText M.now = true ∧ ent.length ≤ 100000 ∧ ∀ H' sb' sl' lk' ls' kvs', Nw H [d, sb, sl, lk, ls, lt] [d, sb', sl', lk', ls', lt] → S2 H' d sb' sl' lk' ls' lt kvs' (LineS.fresh "") (q.add M.now) (ent ++ [M.now]) → Ex s2K kvs kvs' → Fr [d, sb, sl, lk, ls, lt] H H' → Q .non H'
theorem f__law_enter (T : Tx K mg) : Fn P w K mg base "_law_enter" 2 ["state"] (sp_law_enter K) := by
  obtain ⟨fd, F⟩ := T.c.d.def_ 98 (d := d__law_enter) rfl
  refine ⟨_, fd, F.ok (CX := L2.CX P w) sc__law_enter (fun vs H Q E h => ?len) (fun cdv A outer s H vs Q E hr h => ?body), T.g__law_enter, F.kp, F.bindsN fun _ _ _ _ _ _ us hl => match us, hl with | [_], _ => rfl, FunD.bindsA F fun _ _ _ _ _ _ us hl => match us, hl with | [_], _ => rfl⟩
  case len => obtain ⟨d, sb, sl, lk, ls, lt, kvs, M, q, ent, rfl, R, hQ, tx, hen, k⟩ := h; rfl
  case body =>
    obtain ⟨d, sb, sl, lk, ls, lt, kvs, M, q, ent, rfl, R, hQ, tx, hen, k⟩ := h
    have hu64 := hr.units
    have hu := hu_of hr
    refine ⟨_, (pss_cons (ps_set (i := 1) sc__law_enter.nd rfl (Or.inl rfl) (pe_ix (ix_tupK (K := K) rfl) (pe_dget hu (pv 0) pe_str (fun _ _ => rfl)) pe_int (fun _ _ => rfl)))
      (pss_cons (ps_expr (pe_bmK (K := K) rfl PySem.F.plainAttrs_list PySem.F.slot_list_append PySem.F.type_list_append mt_append (pe_dget hu (pv 0) pe_str (fun _ _ => rfl)) (pa_cons (pv 1) pa_nil)))
      (Evl.pss_cut (ps_if (PW.pt (pw_and (pt_cmpR op_ne (pv 1) pe_str (nomark _)) (pw_and1 (pt_cmpR (op_neDK (K := K) rfl hu64) (pe_slice (sl_listK (K := K) rfl) (pe_dget hu (pv 0) pe_str (fun _ _ => rfl)) (po_some (pe_un un_neg pe_int)) po_none) (pe_lst (pa_cons (pv 1) pa_nil)) (nomark _))))) (pss_one (ps_dput hu (pv 0) pe_str (pe_slice (sl_listK (K := K) rfl) (pe_op op_cat (pe_dget hu (pv 0) pe_str (fun _ _ => rfl)) (pe_lst (pa_cons (pv 1) pa_nil))) (po_some (pe_un un_neg pe_int)) po_none) rfl)) pss_nil)
      (pss_cons (ps_dput hu (pv 0) pe_str (pe_op op_cat (pe_dget hu (pv 0) pe_str (fun _ _ => rfl)) (pe_lst (pa_cons pe_str pa_nil))) rfl)
      (pss_cons (ps_dput hu (pv 0) pe_str (pe_callB (call_lnK (K := K) rfl) rfl T.n_len boot_len (pa_cons (pe_dget hu (pv 0) pe_str (fun _ _ => rfl)) pa_nil)) rfl)
      (pss_one (ps_expr (pe_fn (f__law_load T) (hr.mono (by decide)) tkOf (pa_cons (pv 0) (pa_cons pe_str pa_nil)))))))))), ?_⟩
    have ho := R.st.ob
    have hlen := R.st.len
    obtain ⟨r, hr, hp0⟩ := R.st.now
    have hp : H r = some (.tup [.str M.now, .int M.caret, .int M.mark]) := hp0
    have kt := R.kt
    have ht := R.ht
    have hl4 := okText_len tx
    have hql := hQ.l
    have hxp : plainS M.now = true := plain_ok tx
    walk_at "z"
    have R1 := R.addTold (ent ++ [M.now])
    rw [List.map_append] at R1
    change S2 (upd H lt (.lst (ent.map V.str ++ [.str M.now]))) _ _ _ _ _ _ _ _ _ _ at R1
    have f1 : Fr [d, sb, sl, lk, ls, lt] H (upd H lt (.lst (ent.map V.str ++ [.str M.now]))) := Fr.upd Fr.refl (by simp)
    clear ho hp hp0 kt ht R
    generalize upd H lt _ = H1 at R1 f1 ⊢
    refine z_cut (fun σ' H' => σ' = [some (.ref d), some (.str M.now)] ∧ ∃ lk' kvs', (lk' = lk ∨ H1 lk' = none) ∧ S2 H' d sb sl lk' ls lt kvs' M { q with kept := addH 50 M.now q.kept } (ent ++ [M.now]) ∧ Ex s2K kvs kvs' ∧ Fr [d, sb, sl, lk, ls, lt] H1 H') ?_ ?_
    · have ho := R1.st.ob
      have kk := R1.kk
      have hk := R1.hk
      walk_at "z"
      refine ite_b (fun h1 => ?_) (fun h1 => ?_)
      · have ne : ¬ M.now = "" := by simpa using h1
        walk_at "z"
        intro a ha
        walk_at "z"
        intro b hb
        obtain ⟨nba, hb'⟩ := un_fresh hb
        have e1 : cutV (q.kept.map V.str) (some (-1)) none = (cutL q.kept (some (-1)) none).map V.str := by rw [cutV_eq, cutL_map]
        have pl1 : ∀ t ∈ cutL q.kept (some (-1)) none, plainS t = true := fun t ht => plain_ok (hQ.k t (by
          unfold cutL at ht
          exact List.mem_of_mem_drop (List.mem_of_mem_take ht)))
        refine z_neD (d := strD (cutL q.kept (some (-1)) none)) (e := strD [M.now]) (dp_strs (SqL.of (by rw [upd_ne nba.symm, upd_same, e1]))) (dp_strs (SqL.of upd_same)) (shaped_strs pl1) (shaped_strs (by simpa using hxp)) ?_
        rw [eqv_strs]
        have eL : cutL q.kept (some (-1)) none = [M.now] ↔ q.kept.getLast? = some M.now := by
          rw [last_slice]
          cases q.kept.getLast? with
          | none => simp
          | some y => simp
        have s2 : Same H1 (upd (upd H1 a (.lst (cutV (q.kept.map V.str) (some (-1)) none))) b (.lst [.str M.now])) := by walk_at "sa"
        have R2 := R1.same s2
        clear ho hk
        generalize upd (upd H1 a (HO.lst (cutV (q.kept.map V.str) (some (-1)) none))) b (HO.lst [V.str M.now]) = H2 at *
        have ho := R2.st.ob
        have hk := R2.hk
        walk_at "z"
        refine ite_b (fun h2 => ?_) (fun h2 => ?_)
        · have nl : ¬ q.kept.getLast? = some M.now := fun z => by
            rw [decide_eq_true (eL.mpr z)] at h2; cases h2
          walk_at "z"
          intro c hc
          walk_at "z"
          intro e he
          walk_at "z"
          intro f hf
          have e2 : cutV (q.kept.map V.str ++ [.str M.now]) (some (-50)) none = (addH 50 M.now q.kept).map V.str := by
            rw [cutV_eq, show q.kept.map V.str ++ [.str M.now] = (q.kept ++ [M.now]).map V.str by simp, cutL_map, show (-50 : Int) = -(50 : Int) from rfl, cutL_lastN _ (by omega), addH, if_neg (by simp [ne, nl])]
          rw [e2]
          have s3 : Same H2 (upd (upd (upd H2 c (.lst [.str M.now])) e (.lst (q.kept.map V.str ++ [.str M.now]))) f (.lst ((addH 50 M.now q.kept).map V.str))) := by walk_at "sa"
          have hf2 : H2 f = none := (un_fresh (un_fresh hf).2).2
          have R3 := R2.same s3
          obtain ⟨fr1, fr2, fr3, fr4⟩ := R2.fresh hf2
          have hlf : upd (upd (upd H2 c (.lst [.str M.now])) e (.lst (q.kept.map V.str ++ [.str M.now]))) f (.lst ((addH 50 M.now q.kept).map V.str)) f = some (.lst ((addH 50 M.now q.kept).map V.str)) := upd_same
          clear ho hk
          generalize upd (upd (upd H2 c _) e _) f _ = H3 at R3 s3 hlf ⊢
          have ho := R3.st.ob
          walk_at "z"
          have R4 := R3.putKept hlf fr1 fr3 fr4
          exact ⟨rfl, f, _, .inr (fresh_of s2 hf2), R4, Ex.put ex_refl (by decide), Fr.upd (Fr.same (s2.trans s3)) (by simp)⟩
        · have yl : q.kept.getLast? = some M.now := by
            apply eL.mp
            simpa using h2
          walk_at "z"
          refine ⟨rfl, lk, kvs, .inl rfl, ?_, ex_refl, Fr.same s2⟩
          rw [addH, if_pos (.inr yl)]; exact R2
      · have e : M.now = "" := by simpa using h1
        walk_at "z"
        refine ⟨rfl, lk, kvs, .inl rfl, ?_, ex_refl, Fr.refl⟩
        rw [addH, if_pos (.inl e)]; exact R1
    rintro σ H2 ⟨rfl, lk2, kv2, hlk2, R2, x2, f2⟩
    have hal : (addH 50 M.now q.kept).length ≤ 51 := by
      unfold addH
      split
      · omega
      · simp; omega
    have ho := R2.st.ob
    have hlen2 := R2.st.len
    have kk := R2.kk
    have hk : H2 lk2 = some (.lst ((addH 50 M.now q.kept).map V.str)) := R2.hk
    walk_at "z"
    intro a ha
    walk_at "z"
    intro b hb
    have s3 : Same H2 (upd (upd H2 a (.lst [.str ""])) b (.lst ((addH 50 M.now q.kept).map V.str ++ [.str ""]))) := by walk_at "sa"
    have hb2 : H2 b = none := (un_fresh hb).2
    have hlb : upd (upd H2 a (.lst [.str ""])) b (.lst ((addH 50 M.now q.kept).map V.str ++ [.str ""])) b = some (.lst ((addH 50 M.now q.kept ++ [("" : Str)]).map V.str)) := by rw [upd_same, List.map_append]; rfl
    have R3 := R2.same s3
    obtain ⟨fr1, fr2, fr3, fr4⟩ := R2.fresh hb2
    clear ho hk
    generalize upd (upd H2 a _) b _ = H3 at R3 s3 hlb ⊢
    have ho := R3.st.ob
    have R4 := R3.putShown hlb fr1 fr2.symm fr4
    walk_at "z"
    have f4 : Fr [d, sb, sl, lk, ls, lt] H1 (upd H3 d (.dK (putK kv2 (.inr "shown") (.ref b)))) := Fr.upd (f2.trans (Fr.same s3)) (by simp)
    have x4 : Ex s2K kvs (putK kv2 (.inr "shown") (.ref b)) := x2.trans (Ex.put ex_refl (by decide))
    have hlen4 := R4.st.len
    clear ho R3 kk
    generalize putK kv2 (.inr (Str.ofString "shown")) (.ref b) = kv4 at *
    generalize upd H3 d _ = H4 at R4 f4 ⊢
    have ho := R4.st.ob
    have kk := R4.kk
    have hk : H4 lk2 = some (.lst ((addH 50 M.now q.kept).map V.str)) := R4.hk
    walk_at "z"
    rw [List.length_map]
    have R5 := R4.putHere (addH 50 M.now q.kept).length
    have f5 : Fr [d, sb, sl, lk, ls, lt] H (upd H4 d (.dK (putK kv4 (.inr "here") (.int ((addH 50 M.now q.kept).length : Nat))))) := f1.trans (Fr.upd f4 (by simp))
    have x5 : Ex s2K kvs (putK kv4 (.inr "here") (.int ((addH 50 M.now q.kept).length : Nat))) := x4.trans (Ex.put ex_refl (by decide))
    have nb : b ∈ [d, sb, sl, lk, ls, lt] ∨ H b = none := (f1.trans f2).nwA hb2
    have nk : lk2 ∈ [d, sb, sl, lk, ls, lt] ∨ H lk2 = none := hlk2.elim (fun z => .inl (by simp [z])) f1.nwA
    generalize upd H4 d _ = H5 at R5 f5 ⊢
    refine ⟨d, sb, sl, _, _, "", rfl, R5.st, by decide, fun H6 sb6 sl6 kv6 hb6 hl6 R6 x6 f6 => ?_⟩
    walk_at "z"
    exact k H6 sb6 sl6 lk2 b kv6 ((((((nw_nil.old (by simp)).any nb).any nk).any (f5.nwA hl6)).any (f5.nwA hb6)).old (by simp)) (R5.edit R6 (.inr hb6) (.inr hl6) x6 (f6.mono (by simp))) (x5.trans (ex_s2 x6)) (f5.trans (f6.mono (by simp)))
end

theorem sc__law_begun : FnScope ["found"] [] (defScope s__law_begun) := ⟨rfl, rfl, rfl, by decide +kernel, rfl, by decide +kernel, by decide +kernel⟩
section
variable {P : Program} {w : World} {K : PySem.W.Frag} {mg : Str → Option Value} {base : Heap}
def sp_law_begun (K : PySem.W.Frag) : Sp := fun vs H Q _ => vs = [] ∧ ∀ H' d sb sl lk ls lt kvs, (∀ y ∈ [d, sb, sl, lk, ls, lt], H y = none) → S2 H' d sb sl lk ls lt kvs (LineS.fresh "") ⟨[], [""], 0⟩ [] → kvs.length ≤ 8 → Same H H' → Q (.ref d) H'
theorem f__law_begun (T : Tx K mg) : Fn P w K mg base "_law_begun" 2 [] (sp_law_begun K) := by
  obtain ⟨fd, F⟩ := T.c.d.def_ 99 (d := d__law_begun) rfl
  refine ⟨_, fd, F.ok (CX := L2.CX P w) sc__law_begun (fun vs H Q E h => ?len) (fun cdv A outer s H vs Q E hr h => ?body), T.g__law_begun, F.kp, F.bindsN fun _ _ _ _ _ _ us hl => match us, hl with | [], _ => rfl, FunD.bindsA F fun _ _ _ _ _ _ us hl => match us, hl with | [], _ => rfl⟩
  case len => obtain ⟨rfl, k⟩ := h; rfl
  case body =>
    obtain ⟨rfl, k⟩ := h
    have hu := hu_of hr
    refine ⟨_, (pss_cons (ps_set (i := 0) sc__law_begun.nd rfl (Or.inl rfl) (pe_fn0 (f__law_fresh T) (hr.mono (by decide)) tkOf))
      (pss_cons (ps_dput hu (pv 0) pe_str (pe_lst pa_nil) rfl)
      (pss_cons (ps_dput hu (pv 0) pe_str (pe_lst (pa_cons pe_str pa_nil)) rfl)
      (pss_cons (ps_dput hu (pv 0) pe_str pe_int rfl)
      (pss_cons (ps_dput hu (pv 0) pe_str (pe_lst pa_nil) rfl)
      (pss_one (ps_ret (pv 0)))))))), ?_⟩
    walk_at "z"
    refine ⟨rfl, fun H1 d sb sl kvs hd hsb hsl R hl s1 => ?_⟩
    have ho := R.ob
    walk_at "z"
    intro lk hlk
    have nd1 : d ≠ lk := ne_of_none ho hlk
    have nlk : lk ∉ [d, sb, sl] := fun z => R.alive lk z hlk
    have R2 := (R.same (Same.new (Same.refl _) hlk (o := .lst []))).putOther (x := "kept") (v := .ref lk) (by decide) (by have := length_putK kvs (.inr "kept") (.ref lk); omega)
    have f2 : Fr [d] H1 (upd (upd H1 lk (.lst [])) d (.dK (putK kvs (.inr "kept") (.ref lk)))) := Fr.upd (Fr.same (Same.new (Same.refl _) hlk)) (by simp)
    have e2 : upd (upd H1 lk (.lst [])) d (.dK (putK kvs (.inr "kept") (.ref lk))) lk = some (.lst (([] : List Str).map V.str)) := by rw [upd_ne nd1.symm]; exact upd_same
    have hl2 : (putK kvs (.inr "kept") (.ref lk)).length ≤ 5 := by have := length_putK kvs (.inr "kept") (.ref lk); omega
    have g2 : DG (putK kvs (.inr "kept") (.ref lk)) "kept" (.ref lk) := dg_same
    walk_at "z"
    clear ho
    generalize putK kvs (.inr (Str.ofString "kept")) (.ref lk) = kv2 at *
    generalize upd (upd H1 lk _) d _ = H2 at *
    have ho := R2.ob
    intro ls hls
    have nd2 : d ≠ ls := ne_of_none ho hls
    have nls : ls ∉ [d, sb, sl] := fun z => R2.alive ls z hls
    have nlkls : lk ≠ ls := ne_of_none e2 hls
    have R3 := (R2.same (Same.new (Same.refl _) hls (o := .lst [.str ""]))).putOther (x := "shown") (v := .ref ls) (by decide) (by have := length_putK kv2 (.inr "shown") (.ref ls); omega)
    have f3 : Fr [d] H2 (upd (upd H2 ls (.lst [.str ""])) d (.dK (putK kv2 (.inr "shown") (.ref ls)))) := Fr.upd (Fr.same (Same.new (Same.refl _) hls)) (by simp)
    have e3 : upd (upd H2 ls (.lst [.str ""])) d (.dK (putK kv2 (.inr "shown") (.ref ls))) ls = some (.lst (([""] : List Str).map V.str)) := by rw [upd_ne nd2.symm]; exact upd_same
    have hl3 : (putK kv2 (.inr "shown") (.ref ls)).length ≤ 6 := by have := length_putK kv2 (.inr "shown") (.ref ls); omega
    have g3 : DG (putK kv2 (.inr "shown") (.ref ls)) "kept" (.ref lk) ∧ DG (putK kv2 (.inr "shown") (.ref ls)) "shown" (.ref ls) := ⟨dg_ne rfl g2, dg_same⟩
    have e2 := f3 _ _ e2 (by simpa using nd1.symm)
    walk_at "z"
    clear ho
    generalize putK kv2 (.inr (Str.ofString "shown")) (.ref ls) = kv3 at *
    generalize upd (upd H2 ls _) d _ = H3 at *
    have R4 := R3.putOther (x := "here") (v := .int 0) (by decide) (by have := length_putK kv3 (.inr "here") (.int 0); omega)
    have f4 : Fr [d] H3 (upd H3 d (.dK (putK kv3 (.inr "here") (.int 0)))) := Fr.upd Fr.refl (by simp)
    have hl4 : (putK kv3 (.inr "here") (.int 0)).length ≤ 7 := by have := length_putK kv3 (.inr "here") (.int 0); omega
    have g4 : DG (putK kv3 (.inr "here") (.int 0)) "kept" (.ref lk) ∧ DG (putK kv3 (.inr "here") (.int 0)) "shown" (.ref ls) ∧ DG (putK kv3 (.inr "here") (.int 0)) "here" (.int 0) := ⟨dg_ne rfl g3.1, dg_ne rfl g3.2, dg_same⟩
    have e2 := f4 _ _ e2 (by simpa using nd1.symm)
    have e3 := f4 _ _ e3 (by simpa using nd2.symm)
    have ho := R3.ob
    walk_at "z"
    clear ho
    generalize putK kv3 (.inr (Str.ofString "here")) (.int 0) = kv4 at *
    generalize upd H3 d _ = H4 at *
    have ho := R4.ob
    intro lt hlt
    have nd3 : d ≠ lt := ne_of_none ho hlt
    have nlt : lt ∉ [d, sb, sl] := fun z => R4.alive lt z hlt
    have n2 : lk ≠ lt := ne_of_none e2 hlt
    have n3 : ls ≠ lt := ne_of_none e3 hlt
    have R5 := (R4.same (Same.new (Same.refl _) hlt (o := .lst []))).putOther (x := "told") (v := .ref lt) (by decide) (by have := length_putK kv4 (.inr "told") (.ref lt); omega)
    have f5 : Fr [d] H4 (upd (upd H4 lt (.lst [])) d (.dK (putK kv4 (.inr "told") (.ref lt)))) := Fr.upd (Fr.same (Same.new (Same.refl _) hlt)) (by simp)
    have e5 : upd (upd H4 lt (.lst [])) d (.dK (putK kv4 (.inr "told") (.ref lt))) lt = some (.lst (([] : List Str).map V.str)) := by rw [upd_ne nd3.symm]; exact upd_same
    have hl5 : (putK kv4 (.inr "told") (.ref lt)).length ≤ 8 := by have := length_putK kv4 (.inr "told") (.ref lt); omega
    have e2 := f5 _ _ e2 (by simpa using nd1.symm)
    have e3 := f5 _ _ e3 (by simpa using nd2.symm)
    walk_at "z"
    have hls1 : H1 ls = none := f2.free hls (by simpa using nd2.symm)
    have hlt1 : H1 lt = none := f2.free (f3.free (f4.free hlt (by simpa using nd3.symm)) (by simpa using nd3.symm)) (by simpa using nd3.symm)
    refine k _ d sb sl lk ls lt _ ?_ ⟨R5, dg_ne rfl g4.1, dg_ne rfl g4.2.1, dg_ne rfl g4.2.2, dg_same, e2, e3, e5, nlkls, n2, n3, ?_⟩ hl5 ?_
    · intro y hy
      simp only [List.mem_cons, List.not_mem_nil, or_false] at hy
      rcases hy with rfl | rfl | rfl | rfl | rfl | rfl
      · exact hd
      · exact hsb
      · exact hsl
      · exact fresh_of s1 hlk
      · exact fresh_of s1 hls1
      · exact fresh_of s1 hlt1
    · intro y hy
      simp only [List.mem_cons, List.not_mem_nil, or_false] at hy
      rcases hy with rfl | rfl | rfl
      · exact nlk
      · exact nls
      · exact nlt
    · exact Fr.drop s1 ((f2.trans f3).trans (f4.trans f5)) (by simpa using hd)
end

theorem sc__law_show : FnScope ["state", "spot", "lost", "part", "text"] ["state"] (defScope s__law_show) := ⟨rfl, rfl, rfl, by decide +kernel, rfl, by decide +kernel, by decide +kernel⟩
section
variable {P : Program} {w : World} {K : PySem.W.Frag} {mg : Str → Option Value} {base : Heap}
def sp_law_show (K : PySem.W.Frag) : Sp := fun vs H Q _ => ∃ (d sb sl lk ls lt : Addr) (kvs : List (Key × V)) (M : LineS) (hq : HistS) (ent : List Str) (fp : List Addr) (q : SrchS), vs = [.ref d] ∧ S3 H d sb sl lk ls lt kvs M hq ent fp (some q) ∧ QOk hq ∧ SOk q hq.kept 100000 ∧ ∀ H' sb' sl' kvs' fp', Nw H [d, sb, sl, lk, ls, lt] [d, sb', sl', lk, ls, lt] → (∀ y ∈ fp', y ∈ fp) → S3 H' d sb' sl' lk ls lt kvs' (showL hq q).1 (showL hq q).2 ent fp' (some q) → Ex s2K kvs kvs' → Fr [d, sb, sl, lk, ls, lt] H H' → Q .non H'
theorem f__law_show (T : Tx K mg) : Fn P w K mg base "_law_show" 2 ["state"] (sp_law_show K) := by
  obtain ⟨fd, F⟩ := T.c.d.def_ 102 (d := d__law_show) rfl
  refine ⟨_, fd, F.ok (CX := L2.CX P w) sc__law_show (fun vs H Q E h => ?len) (fun cdv A outer s H vs Q E hr h => ?body), T.g__law_show, F.kp, F.bindsN fun _ _ _ _ _ _ us hl => match us, hl with | [_], _ => rfl, FunD.bindsA F fun _ _ _ _ _ _ us hl => match us, hl with | [_], _ => rfl⟩
  case len => obtain ⟨d, sb, sl, lk, ls, lt, kvs, M, hq, ent, fp, q, rfl, R, hQ, hS, k⟩ := h; rfl
  case body =>
    obtain ⟨d, sb, sl, lk, ls, lt, kvs, M, hq, ent, fp, q, rfl, R, hQ, hS, k⟩ := h
    have hu := hu_of hr
    refine ⟨_, (pss_cons (ps_asg (pe_ix (ix_listK (K := K) rfl) (pe_dget hu (pv 0) pe_str (fun _ _ => rfl)) (pe_un un_neg pe_int) (fun _ _ => rfl)) (pg_tupK (K := K) (n := 3) rfl rfl (pgs_cons (pg_name (i := 1) sc__law_show.nd rfl (Or.inl rfl)) (pgs_cons (pg_name (i := 2) sc__law_show.nd rfl (Or.inl rfl)) (pgs_cons (pg_name (i := 3) sc__law_show.nd rfl (Or.inl rfl)) pgs_nil)))))
      (pss_one (ps_if (pt_cmpR op_isNon (pv 1) pe_non (nomark _)) (pss_cons (ps_expr (pe_fn (f__law_load T) (hr.mono (by decide)) tkOf (pa_cons (pv 0) (pa_cons pe_str pa_nil))))
      (pss_cons (ps_dput hu (pv 0) pe_str (pe_ix (ix_tupK (K := K) rfl) (pe_dget hu (pv 0) pe_str (fun _ _ => rfl)) pe_int (fun _ _ => rfl)) rfl)
      (pss_one (ps_dput hu (pv 0) pe_str (pe_ix (ix_tupK (K := K) rfl) (pe_dget hu (pv 0) pe_str (fun _ _ => rfl)) pe_int (fun _ _ => rfl)) rfl)))) (pss_cons (ps_expr (pe_fn (f__law_load T) (hr.mono (by decide)) tkOf (pa_cons (pv 0) (pa_cons (pe_ix (ix_listK (K := K) rfl) (pe_dget hu (pv 0) pe_str (fun _ _ => rfl)) (pv 1) (fun _ _ => rfl)) pa_nil))))
      (pss_cons (ps_set (i := 4) sc__law_show.nd rfl (Or.inl rfl) (pe_ix (ix_listK (K := K) rfl) (pe_dget hu (pv 0) pe_str (fun _ _ => rfl)) (pv 1) (fun _ _ => rfl)))
      (pss_cons (ps_dput hu (pv 0) pe_str (pe_tup (pa_cons (pv 4) (pa_cons (pe_bmK (K := K) rfl PySem.F.plainAttrs_str PySem.F.slot_str_find PySem.F.type_str_find mt_findN (pv 4) (pa_cons (pv 3) pa_nil)) (pa_cons pe_int pa_nil)))) rfl)
      (pss_one (ps_dput hu (pv 0) pe_str (pv 1) rfl)))))))), ?_⟩
    obtain ⟨rw0, rn, lt2, gw, hrw, hrn, gp, gt, hT, rfl⟩ := R.sr
    obtain ⟨rs, r, hl2, hpr, hP⟩ := trail_ends hT hS.ne
    have hP : H r = some (.tup [optV q.last.at_, .bl q.last.lost, .str q.last.part]) := hP
    have ho := R.s2.st.ob
    have hlen := R.s2.st.len
    walk_at "z"
    refine z_ixL (v := .ref r) (SqL.of hl2) (by rw [List.map_append]; exact atI_last _ _) ?_
    have nw3 : ∀ {H' : Hp} {sb' sl' : Addr}, H sb' = none → H sl' = none → Nw H [d, sb, sl, lk, ls, lt] [d, sb', sl', lk, ls, lt] := fun h1 h2 => R.s2.nw3 (.inr h1) (.inr h2)
    unfold showL at k
    cases eA : q.last.at_ with
    | none =>
      rw [eA] at hP k
      have hP : H r = some (.tup [.non, .bl q.last.lost, .str q.last.part]) := hP
      walk_at "z"
      refine ⟨d, sb, sl, kvs, M, "", rfl, R.s2.st, by decide, fun H1 sb1 sl1 kv1 hb1 hl1 R1 x1 f1 => ?_⟩
      have RS := R.step (R.s2.edit R1 (.inr hb1) (.inr hl1) x1 (f1.mono (by simp))) (nw3 (H' := H1) hb1 hl1) (ex_s2 x1) (f1.mono (by simp))
      have f1' : Fr [d, sb, sl, lk, ls, lt] H H1 := f1.mono (by simp)
      obtain ⟨rw1, rn1, lt3, gw1, hrw1, hrn1, gp1, gt1, hT1, e1⟩ := RS.sr
      have ho1 := RS.s2.st.ob
      have hlen1 := RS.s2.st.len
      walk_at "z"
      have T2 := RS.s2.edit (RS.s2.st.putNow hrn1) (.inl rfl) (.inl rfl) (Ex.put ex_refl (by decide)) (Fr.upd Fr.refl (by simp))
      have T3 := RS.step T2 nw_refl (ex_s2 (Ex.put ex_refl (by decide))) (Fr.upd Fr.refl (by simp))
      have hrw2 : upd H1 d (.dK (putK kv1 (.inr "now") (.ref rn1))) rw1 = some (.tup [.ref rn1, .int (q.spot : Nat)]) := by rw [upd_ne (ne_of hrw1 ho1 (by intro z; cases z))]; exact hrw1
      have gw2 : DG (putK kv1 (.inr "now") (.ref rn1)) "was" (.ref rw1) := dg_ne rfl gw1
      have f2 : Fr [d, sb, sl, lk, ls, lt] H (upd H1 d (.dK (putK kv1 (.inr "now") (.ref rn1)))) := Fr.upd f1' (by simp)
      have x2 : Ex s2K kvs (putK kv1 (.inr "now") (.ref rn1)) := (ex_s2 x1).trans (Ex.put ex_refl (by decide))
      have hlen2 := T3.s2.st.len
      clear T2 ho1
      generalize putK kv1 (.inr (Str.ofString "now")) (.ref rn1) = kv2 at *
      generalize upd H1 d _ = H2 at T3 hrw2 f2 ⊢
      have ho2 := T3.s2.st.ob
      walk_at "z"
      have T4 := T3.s2.putHere q.spot
      have T5 := T3.step T4 nw_refl (Ex.put ex_refl (by decide)) (Fr.upd Fr.refl (by simp))
      exact k _ sb1 sl1 _ [lt2] (nw3 (H' := H2) hb1 hl1) (fun y hy => hy) T5 (x2.trans (Ex.put ex_refl (by decide))) (Fr.upd f2 (by simp))
    | some j =>
      rw [eA] at hP k
      have hP : H r = some (.tup [.int (j : Nat), .bl q.last.lost, .str q.last.part]) := hP
      obtain ⟨xj, hxj, hin⟩ := (hS.es _ (HS.last_mem hS.ne)).2 j eA
      have exj : hq.kept.getD j "" = xj := by rw [List.getD_eq_getElem?_getD, hxj]; rfl
      have okj := hQ.k xj (List.mem_of_getElem? hxj)
      have lj := okText_len okj
      dsimp only at k
      rw [exj] at k
      have kk := R.s2.kk
      walk_at "z"
      refine z_ixL (v := .str xj) (SqL.of R.s2.hk) (atI_nat (by rw [List.getElem?_map, hxj]; rfl)) ?_
      walk_at "z"
      refine ⟨d, sb, sl, kvs, M, xj, rfl, R.s2.st, by omega, fun H1 sb1 sl1 kv1 hb1 hl1 R1 x1 f1 => ?_⟩
      have RS := R.step (R.s2.edit R1 (.inr hb1) (.inr hl1) x1 (f1.mono (by simp))) (nw3 (H' := H1) hb1 hl1) (ex_s2 x1) (f1.mono (by simp))
      have f1' : Fr [d, sb, sl, lk, ls, lt] H H1 := f1.mono (by simp)
      have ho1 := RS.s2.st.ob
      have hlen1 := RS.s2.st.len
      have kk1 := RS.s2.kk
      walk_at "z"
      refine z_ixL (v := .str xj) (SqL.of RS.s2.hk) (atI_nat (by rw [List.getElem?_map, hxj]; rfl)) ?_
      walk_at "z"
      intro t2 ht2
      have s2 : Same H1 (upd H1 t2 (.tup [.str xj, .int (Txt.find xj q.last.part), .int 0])) := Same.new (Same.refl _) ht2
      have RS2 := RS.same s2
      have hp2 : PicAt (upd H1 t2 (.tup [.str xj, .int (Txt.find xj q.last.part), .int 0])) t2 ⟨xj, Txt.find xj q.last.part, 0⟩ := upd_same
      clear ho1
      generalize upd H1 t2 _ = H2 at s2 RS2 hp2 ⊢
      have ho2 := RS2.s2.st.ob
      walk_at "z"
      have T2 := RS2.s2.edit (RS2.s2.st.putNow hp2) (.inl rfl) (.inl rfl) (Ex.put ex_refl (by decide)) (Fr.upd Fr.refl (by simp))
      have T3 := RS2.step T2 nw_refl (ex_s2 (Ex.put ex_refl (by decide))) (Fr.upd Fr.refl (by simp))
      have T4 := T3.s2.putHere j
      have T5 := T3.step T4 nw_refl (Ex.put ex_refl (by decide)) (Fr.upd Fr.refl (by simp))
      exact k _ sb1 sl1 _ [lt2] (nw3 (H' := H2) hb1 hl1) (fun y hy => hy) T5 (((ex_s2 x1).trans (Ex.put ex_refl (by decide))).trans (Ex.put ex_refl (by decide))) (Fr.upd (Fr.upd (f1'.trans (Fr.same s2)) (by simp)) (by simp))
end

theorem sc_word_end : FnScope ["text", "at"] ["text", "at"] (defScope s_word_end) := ⟨rfl, rfl, rfl, by decide +kernel, rfl, by decide +kernel, by decide +kernel⟩
section
variable {P : Program} {w : World} {K : PySem.W.Frag} {mg : Str → Option Value} {base : Heap}
def sp_word_end (K : PySem.W.Frag) : Sp := fun vs H Q E => ∃ (x : Str) (a : Int), vs = [.str x, .int a] ∧ x.length < sizeLine ∧ (okText x = true → LineS.place x a → ∀ H', Same H H' → Q (.int (wEnd (tl x) a.toNat : Nat)) H') ∧ (okText x = false → ∀ H', Same H H' → E (.ref (He.ga K "BadText")) none H') ∧ (okText x = true → ¬ LineS.place x a → ∀ H', Same H H' → E (.ref (He.ga K "BadPlace")) none H')
theorem f_word_end (T : Tx K mg) : Fn P w K mg base "word_end" 3 ["text", "at"] (sp_word_end K) := by
  obtain ⟨fd, F⟩ := T.c.d.def_ 5 (d := d_word_end) rfl
  refine ⟨_, fd, F.ok (CX := L2.CX P w) sc_word_end (fun vs H Q E h => ?len) (fun cdv A outer s H vs Q E hr h => ?body), T.g_word_end, F.kp, F.bindsN fun _ _ _ _ _ _ us hl => match us, hl with | [_, _], _ => rfl, FunD.bindsA F fun _ _ _ _ _ _ us hl => match us, hl with | [_, _], _ => rfl⟩
  case len => obtain ⟨x, a, rfl, hx, k1, k2, k3⟩ := h; rfl
  case body =>
    obtain ⟨x, a, rfl, hx, k1, k2, k3⟩ := h
    refine ⟨_, (pss_cons (ps_expr (pe_fn (f_look_text T) (hr.mono (by decide)) tkOf (pa_cons (pv 0) pa_nil)))
      (pss_cons (ps_expr (pe_fn (f_look_place T) (hr.mono (by decide)) tkOf (pa_cons (pv 0) (pa_cons (pv 1) pa_nil))))
      (pss_cons (ps_while passOf (PW.pt (pw_and (pt_cmpR op_lt (pv 1) (pe_callB (call_lnK (K := K) rfl) rfl T.n_len boot_len (pa_cons (pv 0) pa_nil)) (nomark _)) (pw_and1 (pt_not (pt_val (pe_fn (f_is_letter T) (hr.mono (by decide)) tkOf (pa_cons (pv 0) (pa_cons (pv 1) pa_nil)))))))) (pss_one (ps_set (i := 1) sc_word_end.nd rfl (Or.inl rfl) (pe_op op_add (pv 1) pe_int))))
      (pss_cons (ps_while passOf (pt_val (pe_fn (f_is_letter T) (hr.mono (by decide)) tkOf (pa_cons (pv 0) (pa_cons (pv 1) pa_nil)))) (pss_one (ps_set (i := 1) sc_word_end.nd rfl (Or.inl rfl) (pe_op op_add (pv 1) pe_int))))
      (pss_one (ps_ret (pv 1))))))), ?_⟩
    walk_at "z"
    refine ⟨x, rfl, hx, fun ok H1 s1 => ?_, fun bad H1 s1 => k2 bad H1 s1⟩
    walk_at "z"
    refine ⟨x, a, rfl, Nat.le_of_lt hx, fun pl => ?_, fun bad => k3 ok bad _ s1⟩
    have kk := k1 ok pl H1 s1
    clear k1 k2 k3
    have e := len_tl x
    have hl := okText_len ok
    obtain ⟨n, rfl⟩ := Int.eq_ofNat_of_zero_le pl.1
    have hn : n ≤ (tl x).length := by have := pl.2; omega
    clear pl
    rw [show ((n : Int)).toNat = n by omega] at kk
    walk_at "z"
    refine z_while (fun c σ' H' => ∃ m : Nat, σ' = [some (.str x), some (.int (m : Nat))] ∧ H' = H1 ∧ m ≤ (tl x).length ∧ wBeg (tl x) m = wBeg (tl x) n ∧ c = (tl x).length - m) ((tl x).length - n) ⟨n, rfl, rfl, hn, rfl, rfl⟩ ?_
    rintro c σ' H' ⟨m, rfl, rfl, hm, hb, hc⟩
    walk_at "z"
    have fin : wBeg (tl x) m = m → tSeq (tWhile (tB (tCallS (sp_is_letter K) (WE fun cls d x H => E cls d H) (tCons (tVar 0) (tCons (tVar 1) tNil)))) (tAsg (tOp (rI0 fun i j => V.int (i + j)) (tVar 1) (tC (V.int 1))) (gName 1))) (tRet (tVar 1)) { nx := fun x H' => Q V.non H', rt := Q } [some (.str x), some (.int (m : Nat))] H' := by
      intro hbm
      walk_at "z"
      have hew : wRun (tl x) m = wEnd (tl x) n := by unfold wEnd; rw [← hb, hbm]
      clear hb hbm
      refine z_while (fun c σ' H'' => ∃ m : Nat, σ' = [some (.str x), some (.int (m : Nat))] ∧ H'' = H' ∧ m ≤ (tl x).length ∧ wRun (tl x) m = wEnd (tl x) n ∧ c = (tl x).length - m) ((tl x).length - m) ⟨m, rfl, rfl, hm, hew, rfl⟩ ?_
      rintro c σ' H'' ⟨m, rfl, rfl, hm, hb, hc⟩
      walk_at "z"
      refine ⟨x, _, rfl, ok, ?_⟩
      walk_at "z"
      refine ite_b (fun h1 => ?_) (fun h1 => ?_)
      · have hm' : m < (tl x).length := by
          by_cases z : m < (tl x).length
          · exact z
          · rw [letAt_big (by omega)] at h1; cases h1
        refine z_turn ?_
        walk_at "z"
        exact ⟨(tl x).length - (m + 1), by omega, m + 1, by rw [show ((m : Int) + 1) = ((m + 1 : Nat) : Int) by omega]; rfl, rfl, hm', by rw [wRun_step h1]; exact hb, rfl⟩
      · walk_at "z"
        rw [← hb, wRun_stop h1] at kk
        exact kk
    refine ite_b (fun h1 => ?_) (fun h1 => ?_)
    · have h1' := of_decide_eq_true h1
      walk_at "z"
      refine ⟨x, _, rfl, ok, ?_⟩
      walk_at "z"
      refine ite_b (fun h2 => ?_) (fun h2 => ?_)
      · have h2' : letAt (tl x) (m : Nat) = false := by simpa using h2
        refine z_turn ?_
        walk_at "z"
        exact ⟨(tl x).length - (m + 1), by omega, m + 1, by rw [show ((m : Int) + 1) = ((m + 1 : Nat) : Int) by omega]; rfl, rfl, by omega, by rw [wBeg_step (by omega) h2']; exact hb, rfl⟩
      · have h2' : letAt (tl x) (m : Nat) = true := by simpa using h2
        exact fin (wBeg_let h2')
    · have h1' := of_decide_eq_false h1
      walk_at "z"
      exact fin (wBeg_end (by omega))
end

theorem sc_word_start : FnScope ["text", "at"] ["text", "at"] (defScope s_word_start) := ⟨rfl, rfl, rfl, by decide +kernel, rfl, by decide +kernel, by decide +kernel⟩
section
variable {P : Program} {w : World} {K : PySem.W.Frag} {mg : Str → Option Value} {base : Heap}
def sp_word_start (K : PySem.W.Frag) : Sp := fun vs H Q E => ∃ (x : Str) (a : Int), vs = [.str x, .int a] ∧ x.length < sizeLine ∧ (okText x = true → LineS.place x a → ∀ H', Same H H' → Q (.int (wStart (tl x) a.toNat : Nat)) H') ∧ (okText x = false → ∀ H', Same H H' → E (.ref (He.ga K "BadText")) none H') ∧ (okText x = true → ¬ LineS.place x a → ∀ H', Same H H' → E (.ref (He.ga K "BadPlace")) none H')
theorem f_word_start (T : Tx K mg) : Fn P w K mg base "word_start" 3 ["text", "at"] (sp_word_start K) := by
  obtain ⟨fd, F⟩ := T.c.d.def_ 6 (d := d_word_start) rfl
  refine ⟨_, fd, F.ok (CX := L2.CX P w) sc_word_start (fun vs H Q E h => ?len) (fun cdv A outer s H vs Q E hr h => ?body), T.g_word_start, F.kp, F.bindsN fun _ _ _ _ _ _ us hl => match us, hl with | [_, _], _ => rfl, FunD.bindsA F fun _ _ _ _ _ _ us hl => match us, hl with | [_, _], _ => rfl⟩
  case len => obtain ⟨x, a, rfl, hx, k1, k2, k3⟩ := h; rfl
  case body =>
    obtain ⟨x, a, rfl, hx, k1, k2, k3⟩ := h
    refine ⟨_, (pss_cons (ps_expr (pe_fn (f_look_text T) (hr.mono (by decide)) tkOf (pa_cons (pv 0) pa_nil)))
      (pss_cons (ps_expr (pe_fn (f_look_place T) (hr.mono (by decide)) tkOf (pa_cons (pv 0) (pa_cons (pv 1) pa_nil))))
      (pss_cons (ps_while passOf (PW.pt (pw_and (pt_cmpR op_gt (pv 1) pe_int (nomark _)) (pw_and1 (pt_not (pt_val (pe_fn (f_is_letter T) (hr.mono (by decide)) tkOf (pa_cons (pv 0) (pa_cons (pe_op op_sub (pv 1) pe_int) pa_nil)))))))) (pss_one (ps_set (i := 1) sc_word_start.nd rfl (Or.inl rfl) (pe_op op_sub (pv 1) pe_int))))
      (pss_cons (ps_while passOf (pt_val (pe_fn (f_is_letter T) (hr.mono (by decide)) tkOf (pa_cons (pv 0) (pa_cons (pe_op op_sub (pv 1) pe_int) pa_nil)))) (pss_one (ps_set (i := 1) sc_word_start.nd rfl (Or.inl rfl) (pe_op op_sub (pv 1) pe_int))))
      (pss_one (ps_ret (pv 1))))))), ?_⟩
    walk_at "z"
    refine ⟨x, rfl, hx, fun ok H1 s1 => ?_, fun bad H1 s1 => k2 bad H1 s1⟩
    walk_at "z"
    refine ⟨x, a, rfl, Nat.le_of_lt hx, fun pl => ?_, fun bad => k3 ok bad _ s1⟩
    have kk := k1 ok pl H1 s1
    clear k1 k2 k3
    have e := len_tl x
    have hl := okText_len ok
    obtain ⟨n, rfl⟩ := Int.eq_ofNat_of_zero_le pl.1
    have hn : n ≤ (tl x).length := by have := pl.2; omega
    clear pl
    rw [show ((n : Int)).toNat = n by omega] at kk
    walk_at "z"
    refine z_while (fun c σ' H' => ∃ m : Nat, σ' = [some (.str x), some (.int (m : Nat))] ∧ H' = H1 ∧ bSkip (tl x) m = bSkip (tl x) n ∧ c = m) n ⟨n, rfl, rfl, rfl, rfl⟩ ?_
    rintro c σ' H' ⟨m, rfl, rfl, hb, hc⟩
    walk_at "z"
    have fin : bSkip (tl x) m = m → tSeq (tWhile (tB (tCallS (sp_is_letter K) (WE fun cls d x H => E cls d H) (tCons (tVar 0) (tCons (tOp (rI0 fun i j => V.int (i - j)) (tVar 1) (tC (V.int 1))) tNil)))) (tAsg (tOp (rI0 fun i j => V.int (i - j)) (tVar 1) (tC (V.int 1))) (gName 1))) (tRet (tVar 1)) { nx := fun x H' => Q V.non H', rt := Q } [some (.str x), some (.int (m : Nat))] H' := by
      intro hbm
      walk_at "z"
      have hew : bRun (tl x) m = wStart (tl x) n := by unfold wStart; rw [← hb, hbm]
      clear hb hbm
      refine z_while (fun c σ' H'' => ∃ m : Nat, σ' = [some (.str x), some (.int (m : Nat))] ∧ H'' = H' ∧ bRun (tl x) m = wStart (tl x) n ∧ c = m) m ⟨m, rfl, rfl, hew, rfl⟩ ?_
      rintro c σ' H'' ⟨m, rfl, rfl, hb, hc⟩
      walk_at "z"
      refine ⟨x, _, rfl, ok, ?_⟩
      walk_at "z"
      refine ite_b (fun h1 => ?_) (fun h1 => ?_)
      · have hm' : 0 < m := by
          by_cases z : 0 < m
          · exact z
          · rw [letAt_neg (by omega)] at h1; cases h1
        rw [show ((m : Int) - 1) = ((m - 1 : Nat) : Int) by omega] at h1
        refine z_turn ?_
        walk_at "z"
        exact ⟨m - 1, by omega, m - 1, by rw [show ((m : Int) - 1) = ((m - 1 : Nat) : Int) by omega]; rfl, rfl, by rw [← bRun_step h1, show m - 1 + 1 = m by omega]; exact hb, rfl⟩
      · walk_at "z"
        rw [← hb, bRun_stop h1] at kk
        exact kk
    refine ite_b (fun h1 => ?_) (fun h1 => ?_)
    · have h1' := of_decide_eq_true h1
      walk_at "z"
      refine ⟨x, _, rfl, ok, ?_⟩
      walk_at "z"
      rw [show ((m : Int) - 1) = ((m - 1 : Nat) : Int) by omega]
      refine ite_b (fun h2 => ?_) (fun h2 => ?_)
      · have h2' : letAt (tl x) (m - 1 : Nat) = false := by simpa using h2
        refine z_turn ?_
        walk_at "z"
        exact ⟨m - 1, by omega, m - 1, by rw [show ((m : Int) - 1) = ((m - 1 : Nat) : Int) by omega]; rfl, rfl, by rw [← bSkip_step h2', show m - 1 + 1 = m by omega]; exact hb, rfl⟩
      · have h2' : letAt (tl x) (m - 1 : Nat) = true := by simpa using h2
        refine fin ?_
        have := bSkip_let h2'
        rw [show m - 1 + 1 = m by omega] at this
        exact this
    · have h1' := of_decide_eq_false h1
      have hm0 : m = 0 := by omega
      subst hm0
      walk_at "z"
      exact fin rfl
end

theorem sc_Filler_init : FnScope ["self", "words", "word"] ["self", "words"] (defScope s_Filler_init) := ⟨rfl, rfl, rfl, by decide +kernel, rfl, by decide +kernel, by decide +kernel⟩
section
variable {P : Program} {w : World} {K : PySem.W.Frag} {mg : Str → Option Value} {base : Heap}
def sp_Filler_init (K : PySem.W.Frag) : Sp := fun vs H Q E => ∃ (p dx q : Addr) (xs : List Str), vs = [.ref p, .ref q] ∧ H p = some (.ins (He.ga K "Filler") dx []) ∧ SqL K H q (xs.map V.str) ∧ (∀ x ∈ xs, x.length < sizeLine) ∧ xs.length < 1000 ∧
  (fillOk xs = true → xs.length < 64 ∧ ∀ H' l ws, H l = none → FillAt K H' p l ws → Srt ws xs → ws.length ≤ xs.length → Fr [p] H H' → Q .non H') ∧ (fillOk xs = false → ∀ H', Same H H' → E (.ref (He.ga K "BadText")) none H')
theorem mk_Filler (T : Tx K mg) : Mkr P w K mg base "Filler" (He.ga K "Filler") 3 ["self", "words"] (sp_Filler_init K) := by
  obtain ⟨fd, F⟩ := T.c.d.def_ 8 (d := d_Filler_init) rfl
  refine ⟨_, fd, F.ok (CX := L2.CX P w) sc_Filler_init (fun vs H Q E h => ?len) (fun cdv A outer s H vs Q E hr h => ?body), T.mr_Filler, T.g_Filler, F.bindsN fun _ _ _ _ _ _ us hl => match us, hl with | [_, _], _ => rfl⟩
  case len => obtain ⟨p, dx, q, xs, rfl, hp, hq, hxl, hxn, k1, k2⟩ := h; rfl
  case body =>
    obtain ⟨p, dx, q, xs, rfl, hp, hq, hxl, hxn, k1, k2⟩ := h
    refine ⟨_, (pss_cons (ps_if (pt_cmpR op_gt (pe_callB (call_lnK (K := K) rfl) rfl T.n_len boot_len (pa_cons (pv 1) pa_nil)) (pe_gcon T.c_MOST_WORDS) (nomark _)) (pss_one (ps_rs rfl tkOf T.x_BadText T.g_BadText)) pss_nil)
      (pss_cons (ps_for passOf rfl (pi_listK (K := K) rfl (pv 1)) (pg_name (i := 2) sc_Filler_init.nd rfl (Or.inl rfl)) (pss_cons (ps_expr (pe_fn (f_look_text T) (hr.mono (by decide)) tkOf (pa_cons (pv 2) pa_nil)))
      (pss_one (ps_if (PW.pt (pw_or (pt_cmpR op_eq (pv 2) pe_str (nomark _)) (pw_or1 (pt_cmpR op_inStr pe_str (pv 2) rfl)))) (pss_one (ps_rs rfl tkOf T.x_BadText T.g_BadText)) pss_nil))))
      (pss_one (ps_put T.cl_Filler T.na_Filler_words (pv 0) (pe_sortSet (K := K) rfl rfl T.n_sorted T.n_set (pv 1)))))), ?_⟩
    walk_at "z"
    rw [List.length_map]
    refine ite_b (fun h1 => ?_) (fun h1 => ?_)
    · have h1' := of_decide_eq_true h1
      walk_at "z"
      refine k2 ?_ H (Same.refl _)
      unfold fillOk; rw [decide_eq_false (by omega)]; rfl
    · have h1' := of_decide_eq_false h1
      have e200 : decide (xs.length ≤ 200) = true := decide_eq_true (by omega)
      walk_at "z"
      refine fg_list (K := K) (xs := xs.map V.str) (fun i σ' H' => ∃ v2, σ' = [some (.ref p), some (.ref q), v2] ∧ Same H H' ∧ (xs.take i).all wordOk = true) ⟨none, rfl, Same.refl _, rfl⟩ ?_ ?_ ?_
      · rintro i σ' H' _ ⟨v2, _, s, _⟩
        exact Evl.ex_l s hq
      · rintro i v σ' H1 hv ⟨v2, rfl, s1, al⟩
        rw [List.getElem?_map] at hv
        obtain ⟨x, hx, rfl⟩ := Option.map_eq_some_iff.mp hv
        have hxm := List.mem_of_getElem? hx
        have bad : wordOk x = false → fillOk xs = false := fun z => by
          unfold fillOk
          rw [e200, Bool.true_and]
          cases g : xs.all wordOk with
          | false => rfl
          | true => rw [List.all_eq_true.mp g x hxm] at z; cases z
        have hx4 := hxl x hxm
        walk_at "z"
        refine ⟨x, rfl, hx4, fun ok H2 s2 => ?_, fun nok H2 s2 => k2 (bad (by unfold wordOk; rw [nok]; rfl)) H2 (Same.trans s1 s2)⟩
        walk_at "z"
        refine ite_b (fun h2 => ?_) (fun h2 => ?_)
        · walk_at "z"
          refine k2 (bad ?_) H2 (Same.trans s1 s2)
          have : x = "" := by simpa using h2
          unfold wordOk; rw [decide_eq_true this]; simp
        · have h2' : ¬ x = "" := by simpa using h2
          walk_at "z"
          have eb : (!(Builtin.Str.occurrences x " " 0 x.length 1).isEmpty) = decide (32 ∈ tl x) := StrLaws.found_one x 32
          rw [eb]
          refine ite_b (fun h3 => ?_) (fun h3 => ?_)
          · walk_at "z"
            refine k2 (bad ?_) H2 (Same.trans s1 s2)
            unfold wordOk; rw [h3]; simp
          · walk_at "z"
            refine ⟨_, rfl, Same.trans s1 s2, ?_⟩
            rw [List.take_succ, hx, Option.toList_some, List.all_append, al]
            show (true && (wordOk x && true)) = true
            unfold wordOk
            rw [ok, h3, decide_eq_false h2']; rfl
      rintro σ' H1 ⟨v2, rfl, s1, al⟩
      rw [List.length_map, List.take_length] at al
      obtain ⟨few, k⟩ := k1 (by unfold fillOk; rw [e200, al]; rfl)
      have hp1 := s1 _ _ hp
      walk_at "z"
      refine ⟨q, xs, rfl, Evl.ex_l s1 hq, few, fun l ws hl pm sr => ?_⟩
      have npl := ne_of_none hp1 hl
      walk_at "z"
      refine k _ l ws (fresh_of s1 hl) ⟨⟨dx, by walk_at "h"⟩, by walk_at "h"⟩ (.of pm sr) (Srt.len pm) ((Fr.same s1).trans (by walk_at "fr"))
end

theorem sc_Filler_start : FnScope ["self", "text", "at"] ["self", "text", "at"] (defScope s_Filler_start) := ⟨rfl, rfl, rfl, by decide +kernel, rfl, by decide +kernel, by decide +kernel⟩
section
variable {P : Program} {w : World} {K : PySem.W.Frag} {mg : Str → Option Value} {base : Heap}
def sp_Filler_start (K : PySem.W.Frag) : Sp := fun vs H Q E => ∃ (p : Addr) (x : Str) (a : Int), vs = [.ref p, .str x, .int a] ∧ x.length < sizeLine ∧ (okText x = true → LineS.place x a → ∀ H', Same H H' → Q (.int (fStart (tl x) a.toNat : Nat)) H') ∧ (okText x = false → ∀ H', Same H H' → E (.ref (He.ga K "BadText")) none H') ∧ (okText x = true → ¬ LineS.place x a → ∀ H', Same H H' → E (.ref (He.ga K "BadPlace")) none H')
theorem m_Filler_start (T : Tx K mg) : Mt P w K mg base (He.ga K "Filler") "start" 3 ["self", "text", "at"] (sp_Filler_start K) := by
  obtain ⟨fd, F⟩ := T.c.d.def_ 9 (d := d_Filler_start) rfl
  refine ⟨_, fd, F.ok (CX := L2.CX P w) sc_Filler_start (fun vs H Q E h => ?len) (fun cdv A outer s H vs Q E hr h => ?body), T.me_Filler_start, T.cl_Filler, F.bindsN fun _ _ _ _ _ _ us hl => match us, hl with | [_, _, _], _ => rfl⟩
  case len => obtain ⟨p, x, a, rfl, hx, k1, k2, k3⟩ := h; rfl
  case body =>
    obtain ⟨p, x, a, rfl, hx, k1, k2, k3⟩ := h
    refine ⟨_, (pss_cons (ps_expr (pe_fn (f_look_text T) (hr.mono (by decide)) tkOf (pa_cons (pv 1) pa_nil)))
      (pss_cons (ps_expr (pe_fn (f_look_place T) (hr.mono (by decide)) tkOf (pa_cons (pv 1) (pa_cons (pv 2) pa_nil))))
      (pss_one (ps_ret (pe_op op_add (pe_bmK (K := K) rfl PySem.F.plainAttrs_str PySem.F.slot_str_rfind PySem.F.type_str_rfind mt_rfind4N (pv 1) (pa_cons pe_str (pa_cons pe_int (pa_cons (pv 2) pa_nil)))) pe_int))))), ?_⟩
    walk_at "z"
    refine ⟨x, rfl, hx, fun ok H1 s1 => ?_, fun bad H1 s1 => k2 bad H1 s1⟩
    walk_at "z"
    refine ⟨x, a, rfl, Nat.le_of_lt hx, fun pl => ?_, fun bad => k3 ok bad _ s1⟩
    have kk := k1 ok pl H1 s1
    obtain ⟨n, rfl⟩ := Int.eq_ofNat_of_zero_le pl.1
    walk_at "z"
    rw [show ((n : Int)).toNat = n by omega] at kk
    rw [rfind_start (x := x) (a := n) (by have := pl.2; omega)]
    exact kk
end

theorem sc_History_add : FnScope ["self", "text"] ["self", "text"] (defScope s_History_add) := ⟨rfl, rfl, rfl, by decide +kernel, rfl, by decide +kernel, by decide +kernel⟩
section
variable {P : Program} {w : World} {K : PySem.W.Frag} {mg : Str → Option Value} {base : Heap}
def sp_History_add (K : PySem.W.Frag) : Sp := fun vs H Q E => ∃ (p lk ls : Addr) (m s : Int) (ks ss : List Str) (x : Str), vs = [.ref p, .str x] ∧ HistAt K H p lk ls m ks ss s ∧ x.length < sizeLine ∧ ks.length ≤ 1000 ∧ 1 ≤ m ∧ (∀ t ∈ ks, plainS t = true) ∧
  (okText x = true → ∀ H' lk' ls', (lk' = lk ∨ H lk' = none) → H ls' = none → HistAt K H' p lk' ls' m (addH m x ks) (addH m x ks ++ [("" : Str)]) ((addH m x ks).length : Nat) → Fr [p] H H' → Q .non H') ∧
  (okText x = false → ∀ H', Same H H' → E (.ref (He.ga K "BadText")) none H')
theorem m_History_add (T : Tx K mg) : Mt P w K mg base (He.ga K "History") "add" 3 ["self", "text"] (sp_History_add K) := by
  obtain ⟨fd, F⟩ := T.c.d.def_ 13 (d := d_History_add) rfl
  refine ⟨_, fd, F.ok (CX := L2.CX P w) sc_History_add (fun vs H Q E h => ?len) (fun cdv A outer s H vs Q E hr h => ?body), T.me_History_add, T.cl_History, F.bindsN fun _ _ _ _ _ _ us hl => match us, hl with | [_, _], _ => rfl⟩
  case len => obtain ⟨p, lk, ls, m, s0, ks, ss, x, rfl, R, hx, hn, hm, hpl, k1, k2⟩ := h; rfl
  case body =>
    obtain ⟨p, lk, ls, m, s0, ks, ss, x, rfl, R, hx, hn, hm, hpl, k1, k2⟩ := h
    have hu64 := hr.units
    refine ⟨_, (pss_cons (ps_expr (pe_fn (f_look_text T) (hr.mono (by decide)) tkOf (pa_cons (pv 1) pa_nil)))
      (Evl.pss_cut (ps_if (PW.pt (pw_and (pt_cmpR op_ne (pv 1) pe_str (nomark _)) (pw_and1 (pt_cmpR (op_neDK (K := K) rfl hu64) (pe_slice (sl_listK (K := K) rfl) (pe_get T.cl_History T.na_History_kept (pv 0)) (po_some (pe_un un_neg pe_int)) po_none) (pe_lst (pa_cons (pv 1) pa_nil)) (nomark _))))) (pss_one (ps_put T.cl_History T.na_History_kept (pv 0) (pe_slice (sl_listK (K := K) rfl) (pe_op op_cat (pe_get T.cl_History T.na_History_kept (pv 0)) (pe_lst (pa_cons (pv 1) pa_nil))) (po_some (pe_op op_sub pe_int (pe_get T.cl_History T.na_History_most (pv 0)))) po_none))) pss_nil)
      (pss_cons (ps_put T.cl_History T.na_History_shown (pv 0) (pe_op op_cat (pe_get T.cl_History T.na_History_kept (pv 0)) (pe_lst (pa_cons pe_str pa_nil))))
      (pss_one (ps_put T.cl_History T.na_History_spot (pv 0) (pe_callB (call_lnK (K := K) rfl) rfl T.n_len boot_len (pa_cons (pe_get T.cl_History T.na_History_kept (pv 0)) pa_nil))))))), ?_⟩
    walk_at "z"
    refine ⟨x, rfl, hx, fun ok H1 s1 => ?_, fun bad H1 s1 => k2 bad H1 s1⟩
    have R1 := R.same s1
    obtain ⟨⟨dx, ho⟩, hk, hsl, hne⟩ := R1
    have hx4 : x.length ≤ 400 := by
      unfold okText at ok
      rw [Bool.and_eq_true] at ok
      exact of_decide_eq_true ok.1
    have hxp : plainS x = true := plain_ok ok
    have npk : lk ≠ p := ne_of hk ho (by intro z; cases z)
    refine z_cut (fun σ' H' => σ' = L2.start ["self", "text"] [.ref p, .str x] ∧ ∃ lk', (lk' = lk ∨ H lk' = none) ∧ H' p = some (.ins (He.ga K "History") dx (histF m lk' ls s0)) ∧ H' lk' = some (.lst ((addH m x ks).map V.str)) ∧ Fr [p] H H') ?_ ?_
    · walk_at "z"
      refine ite_b (fun h1 => ?_) (fun h1 => ?_)
      · have ne : ¬ x = "" := by simpa using h1
        walk_at "z"
        intro a ha
        have nka := ne_of_none hk ha
        walk_at "z"
        intro b hb
        obtain ⟨nba, hb'⟩ := un_fresh hb
        have e1 : cutV (ks.map V.str) (some (-1)) none = (cutL ks (some (-1)) none).map V.str := by rw [cutV_eq, cutL_map]
        have pl1 : ∀ t ∈ cutL ks (some (-1)) none, plainS t = true := fun t ht => hpl t (by
          unfold cutL at ht
          exact List.mem_of_mem_drop (List.mem_of_mem_take ht))
        refine z_neD (d := strD (cutL ks (some (-1)) none)) (e := strD [x]) (dp_strs (SqL.of (by rw [upd_ne nba.symm, upd_same, e1]))) (dp_strs (SqL.of upd_same)) (shaped_strs pl1) (shaped_strs (by simpa using hxp)) ?_
        rw [eqv_strs]
        have eL : cutL ks (some (-1)) none = [x] ↔ ks.getLast? = some x := by
          rw [last_slice]
          cases ks.getLast? with
          | none => simp
          | some y => simp
        have s2 : Same H1 (upd (upd H1 a (.lst (cutV (ks.map V.str) (some (-1)) none))) b (.lst [.str x])) := by walk_at "sa"
        have ho2 := s2 _ _ ho
        have hk2 := s2 _ _ hk
        generalize upd (upd H1 a (HO.lst (cutV (ks.map V.str) (some (-1)) none))) b (HO.lst [V.str x]) = H2 at *
        walk_at "z"
        refine ite_b (fun h2 => ?_) (fun h2 => ?_)
        · have nl : ¬ ks.getLast? = some x := fun z => by
            rw [decide_eq_true (eL.mpr z)] at h2; cases h2
          walk_at "z"
          intro c hc
          have npc := ne_of_none ho2 hc
          have nkc := ne_of_none hk2 hc
          walk_at "z"
          intro e he
          obtain ⟨nec, he'⟩ := un_fresh he
          have npe := ne_of_none ho2 he'
          walk_at "z"
          intro f hf
          obtain ⟨nfe, hf'⟩ := un_fresh hf
          obtain ⟨nfc, hf''⟩ := un_fresh hf'
          have npf := ne_of_none ho2 hf''
          walk_at "z"
          refine ⟨rfl, f, .inr (fresh_of s1 (fresh_of s2 hf'')), by walk_at "h", ?_, ?_⟩
          · have e2 : cutV (ks.map V.str ++ [.str x]) (some (0 - m)) none = (addH m x ks).map V.str := by
              rw [cutV_eq, show ks.map V.str ++ [.str x] = (ks ++ [x]).map V.str by simp, cutL_map, show (0 : Int) - m = -m by omega, cutL_lastN _ (by omega), addH, if_neg (by simp [ne, nl])]
            rw [upd_ne npf.symm, ← e2]; exact upd_same
          · exact Fr.upd (Fr.new (Fr.new (Fr.new (Fr.same (Same.trans s1 s2)) hc) he) hf) (by simp)
        · have yl : ks.getLast? = some x := by
            apply eL.mp
            simpa using h2
          walk_at "z"
          refine ⟨rfl, lk, .inl rfl, ho2, ?_, Fr.same (Same.trans s1 s2)⟩
          rw [addH, if_pos (.inr yl)]; exact hk2
      · have e : x = "" := by simpa using h1
        walk_at "z"
        refine ⟨rfl, lk, .inl rfl, ho, ?_, Fr.same s1⟩
        rw [addH, if_pos (.inl e)]; exact hk
    rintro σ H2 ⟨rfl, lk', hlk', ho2, hk2, f2⟩
    have nk2 : lk' ≠ p := ne_of hk2 ho2 (by intro z; cases z)
    have hlen : (addH m x ks).length ≤ 1001 := by
      unfold addH
      split
      · omega
      · simp; omega
    walk_at "z"
    intro a ha
    have nka := ne_of_none hk2 ha
    have npa := ne_of_none ho2 ha
    walk_at "z"
    intro b hb
    obtain ⟨nba, hb'⟩ := un_fresh hb
    have nkb := ne_of_none hk2 hb'
    have npb := ne_of_none ho2 hb'
    walk_at "z"
    have hb0 : H b = none := by
      cases q : H b with
      | none => rfl
      | some o =>
        by_cases z : b = p
        · rw [z] at hb'; rw [hb'] at ho2; cases ho2
        · rw [f2 b o q (by simpa using z)] at hb'; cases hb'
    refine k1 ok _ lk' b hlk' hb0 ⟨⟨dx, ?_⟩, by walk_at "h", ?_, nkb⟩ (by walk_at "fr")
    · rw [upd_same, List.length_map]; rfl
    · rw [upd_ne npb.symm, upd_ne npb.symm, upd_same]; simp
end

theorem sc_Line_init : FnScope ["self", "text"] ["self", "text"] (defScope s_Line_init) := ⟨rfl, rfl, rfl, by decide +kernel, rfl, by decide +kernel, by decide +kernel⟩
section
variable {P : Program} {w : World} {K : PySem.W.Frag} {mg : Str → Option Value} {base : Heap}
def sp_Line_init (K : PySem.W.Frag) : Sp := fun vs H Q E => ∃ (p dx : Addr) (x : Str), vs = [.ref p, .str x] ∧ H p = some (.ins (He.ga K "Line") dx []) ∧ x.length < sizeLine ∧
  (okText x = true → ∀ H' lb ll, H lb = none → H ll = none → LineAt K H' p lb ll (LineS.fresh x) → Fr [p] H H' → Q .non H') ∧ (okText x = false → ∀ H', Same H H' → E (.ref (He.ga K "BadText")) none H')
theorem mk_Line (T : Tx K mg) : Mkr P w K mg base "Line" (He.ga K "Line") 3 ["self", "text"] (sp_Line_init K) := by
  obtain ⟨fd, F⟩ := T.c.d.def_ 20 (d := d_Line_init) rfl
  refine ⟨_, fd, F.ok (CX := L2.CX P w) sc_Line_init (fun vs H Q E h => ?len) (fun cdv A outer s H vs Q E hr h => ?body), T.mr_Line, T.g_Line, F.bindsN fun _ _ _ _ _ _ us hl => match us, hl with | [_, _], _ => rfl⟩
  case len => obtain ⟨p, dx, x, rfl, hp, hx, k1, k2⟩ := h; rfl
  case body =>
    obtain ⟨p, dx, x, rfl, hp, hx, k1, k2⟩ := h
    refine ⟨_, (pss_cons (ps_expr (pe_fn (f_look_text T) (hr.mono (by decide)) tkOf (pa_cons (pv 1) pa_nil)))
      (pss_cons (ps_put T.cl_Line T.na_Line_now (pv 0) (pv 1))
      (pss_cons (ps_put T.cl_Line T.na_Line_caret (pv 0) (pe_callB (call_lnK (K := K) rfl) rfl T.n_len boot_len (pa_cons (pv 1) pa_nil)))
      (pss_cons (ps_put T.cl_Line T.na_Line_mark (pv 0) pe_int)
      (pss_cons (ps_put T.cl_Line T.na_Line_before (pv 0) (pe_lst pa_nil))
      (pss_cons (ps_put T.cl_Line T.na_Line_later (pv 0) (pe_lst pa_nil))
      (pss_one (ps_put T.cl_Line T.na_Line_run (pv 0) pe_int)))))))), ?_⟩
    walk_at "z"
    refine ⟨x, rfl, hx, fun ok H1 s1 => ?_, fun bad H1 s1 => k2 bad H1 s1⟩
    have hp1 := s1 _ _ hp
    have hx' : x.length ≤ sizeLine := Nat.le_of_lt hx
    walk_at "z"
    intro lb hlb
    have n1 : p ≠ lb := (un_fresh hlb).1.symm
    obtain ⟨hlb1, _⟩ : H1 lb = none ∧ True := ⟨(un_fresh (un_fresh (un_fresh hlb).2).2).2, trivial⟩
    walk_at "z"
    intro ll hll
    have n2 : p ≠ ll := (un_fresh hll).1.symm
    have n3 : ll ≠ lb := (un_fresh (un_fresh hll).2).1
    have hll1 : H1 ll = none := (un_fresh (un_fresh (un_fresh (un_fresh (un_fresh hll).2).2).2).2).2
    walk_at "z"
    refine k1 ok _ lb ll (fresh_of s1 hlb1) (fresh_of s1 hll1) ⟨⟨dx, by walk_at "h"⟩, ⟨[], by walk_at "h", .nil⟩, ⟨[], by walk_at "h", .nil⟩, n3.symm⟩ (by walk_at "fr")
end

theorem sc_Line_check : FnScope ["self", "first", "last", "new"] ["self", "first", "last", "new"] (defScope s_Line_check) := ⟨rfl, rfl, rfl, by decide +kernel, rfl, by decide +kernel, by decide +kernel⟩
section
variable {P : Program} {w : World} {K : PySem.W.Frag} {mg : Str → Option Value} {base : Heap}
def sp_Line_check (K : PySem.W.Frag) : Sp := fun vs H Q E => ∃ (p lb ll : Addr) (L : LineS) (f l : Int) (new : Str), vs = [.ref p, .int f, .int l, .str new] ∧ LineAt K H p lb ll L ∧ L.now.length ≤ 400 ∧ new.length < sizeLine ∧
  (chk L f l new = none → ∀ H', Same H H' → Q .non H') ∧ (∀ e, chk L f l new = some e → ∀ H', Same H H' → E (.ref (He.ga K e)) none H')
theorem m_Line_check (T : Tx K mg) : Mt P w K mg base (He.ga K "Line") "check" 3 ["self", "first", "last", "new"] (sp_Line_check K) := by
  obtain ⟨fd, F⟩ := T.c.d.def_ 30 (d := d_Line_check) rfl
  refine ⟨_, fd, F.ok (CX := L2.CX P w) sc_Line_check (fun vs H Q E h => ?len) (fun cdv A outer s H vs Q E hr h => ?body), T.me_Line_check, T.cl_Line, F.bindsN fun _ _ _ _ _ _ us hl => match us, hl with | [_, _, _, _], _ => rfl⟩
  case len => obtain ⟨p, lb, ll, L, f, l, new, rfl, R, hl, hn, k1, k2⟩ := h; rfl
  case body =>
    obtain ⟨p, lb, ll, L, f, l, new, rfl, R, hl, hn, k1, k2⟩ := h
    refine ⟨_, (pss_cons (ps_expr (pe_fn (f_look_place T) (hr.mono (by decide)) tkOf (pa_cons (pe_get T.cl_Line T.na_Line_now (pv 0)) (pa_cons (pv 1) pa_nil))))
      (pss_cons (ps_expr (pe_fn (f_look_place T) (hr.mono (by decide)) tkOf (pa_cons (pe_get T.cl_Line T.na_Line_now (pv 0)) (pa_cons (pv 2) pa_nil))))
      (pss_cons (ps_expr (pe_fn (f_look_text T) (hr.mono (by decide)) tkOf (pa_cons (pv 3) pa_nil)))
      (pss_one (ps_if (pt_cmpR op_gt (pe_op op_add (pe_op op_sub (pe_callB (call_lnK (K := K) rfl) rfl T.n_len boot_len (pa_cons (pe_get T.cl_Line T.na_Line_now (pv 0)) pa_nil)) (pe_op op_sub (pv 2) (pv 1))) (pe_callB (call_lnK (K := K) rfl) rfl T.n_len boot_len (pa_cons (pv 3) pa_nil))) (pe_gcon T.c_MOST_TEXT) (nomark _)) (pss_one (ps_rs rfl tkOf T.x_BadText T.g_BadText)) pss_nil))))), ?_⟩
    obtain ⟨⟨dx, ho⟩, hb, hll, hne⟩ := id R
    walk_at "z"
    refine ⟨L.now, f, rfl, by rw [sizeLine_eq]; omega, fun ok => ?_, fun bad => k2 "BadPlace" (by unfold chk; rw [if_neg bad]) H (Same.refl _)⟩
    walk_at "z"
    refine ⟨L.now, l, rfl, by rw [sizeLine_eq]; omega, fun ok2 => ?_, fun bad => k2 "BadPlace" (by unfold chk; rw [if_pos ok, if_neg bad]) H (Same.refl _)⟩
    walk_at "z"
    refine ⟨new, rfl, hn, fun ok3 H1 s1 => ?_, fun bad H1 s1 => k2 "BadText" (by unfold chk; rw [if_pos ok, if_pos ok2, bad]; rfl) H1 s1⟩
    have ho1 := s1 _ _ ho
    have hn' : new.length ≤ sizeLine := Nat.le_of_lt hn
    walk_at "z"
    refine ite_b (fun h1 => ?_) (fun h1 => ?_)
    · have h1' := of_decide_eq_true h1
      walk_at "z"
      refine k2 "BadText" ?_ H1 s1
      unfold chk LineS.len
      rw [if_pos ok, if_pos ok2, if_pos ok3, if_pos h1']
    · have h1' := of_decide_eq_false h1
      walk_at "z"
      refine k1 ?_ H1 s1
      unfold chk LineS.len
      rw [if_pos ok, if_pos ok2, if_pos ok3, if_neg h1']
end

theorem sc_Ring_push : FnScope ["self", "text"] ["self", "text"] (defScope s_Ring_push) := ⟨rfl, rfl, rfl, by decide +kernel, rfl, by decide +kernel, by decide +kernel⟩
section
variable {P : Program} {w : World} {K : PySem.W.Frag} {mg : Str → Option Value} {base : Heap}
def sp_Ring_push (K : PySem.W.Frag) : Sp := fun vs H Q E => ∃ (p l : Addr) (m s : Int) (ts : List Str) (x : Str), vs = [.ref p, .str x] ∧ RingAt K H p l m ts s ∧ x.length < sizeLine ∧ ts.length ≤ 1000 ∧ 0 ≤ m ∧
  (okText x = true → ∀ H' l', (l' = l ∨ H l' = none) → RingAt K H' p l' m (pushR m x ts) 0 → Fr [p] H H' → Q .non H') ∧
  (okText x = false → ∀ H', Same H H' → E (.ref (He.ga K "BadText")) none H')
theorem m_Ring_push (T : Tx K mg) : Mt P w K mg base (He.ga K "Ring") "push" 3 ["self", "text"] (sp_Ring_push K) := by
  obtain ⟨fd, F⟩ := T.c.d.def_ 38 (d := d_Ring_push) rfl
  refine ⟨_, fd, F.ok (CX := L2.CX P w) sc_Ring_push (fun vs H Q E h => ?len) (fun cdv A outer s H vs Q E hr h => ?body), T.me_Ring_push, T.cl_Ring, F.bindsN fun _ _ _ _ _ _ us hl => match us, hl with | [_, _], _ => rfl⟩
  case len => obtain ⟨p, l, m, s0, ts, x, rfl, R, hx, hn, hm, k1, k2⟩ := h; rfl
  case body =>
    obtain ⟨p, l, m, s0, ts, x, rfl, R, hx, hn, hm, k1, k2⟩ := h
    refine ⟨_, (pss_cons (ps_expr (pe_fn (f_look_text T) (hr.mono (by decide)) tkOf (pa_cons (pv 1) pa_nil)))
      (pss_cons (ps_if (pt_cmpR op_ne (pv 1) pe_str (nomark _)) (pss_one (ps_put T.cl_Ring T.na_Ring_texts (pv 0) (pe_slice (sl_listK (K := K) rfl) (pe_op op_cat (pe_lst (pa_cons (pv 1) pa_nil)) (pe_get T.cl_Ring T.na_Ring_texts (pv 0))) po_none (po_some (pe_get T.cl_Ring T.na_Ring_most (pv 0)))))) pss_nil)
      (pss_one (ps_put T.cl_Ring T.na_Ring_spot (pv 0) pe_int)))), ?_⟩
    walk_at "z"
    refine ⟨x, rfl, hx, fun ok H1 s1 => ?_, fun bad H1 s1 => k2 bad H1 s1⟩
    obtain ⟨⟨dx, ho⟩, hl⟩ := R.same s1
    walk_at "z"
    refine ite_b (fun h1 => ?_) (fun h1 => ?_)
    · have ne : ¬ x = "" := by
        intro z
        rw [z] at h1; simp at h1
      walk_at "z"
      intro a ha
      have npa := ne_of_none ho ha
      have nla := ne_of_none hl ha
      walk_at "z"
      intro b hb
      obtain ⟨nba, hb'⟩ := un_fresh hb
      have npb := ne_of_none ho hb'
      walk_at "z"
      intro c hc
      obtain ⟨ncb, hc'⟩ := un_fresh hc
      obtain ⟨nca, hc''⟩ := un_fresh hc'
      have npc := ne_of_none ho hc''
      walk_at "z"
      refine k1 ok _ c (.inr (fresh_of s1 hc'')) ⟨⟨dx, by walk_at "h"⟩, ?_⟩ (by walk_at "fr")
      have e : cutV (V.str x :: ts.map V.str) none (some m) = (pushR m x ts).map V.str := by
        rw [cutV_eq, show V.str x :: ts.map V.str = (x :: ts).map V.str from rfl, cutL_map, cutL_to _ hm, pushR, if_neg ne]
      have h := @upd_same (upd (upd H1 a (HO.lst [V.str x])) b (HO.lst ([V.str x] ++ List.map V.str ts))) c (HO.lst (cutV ([V.str x] ++ List.map V.str ts) none (some m)))
      rw [upd_ne npc.symm, upd_ne npc.symm, h]
      exact congrArg (fun z => some (HO.lst z)) e
    · have e : x = "" := by
        have := h1; simp at this; exact this
      walk_at "z"
      refine k1 ok _ l (.inl rfl) ⟨⟨dx, by walk_at "h"⟩, ?_⟩ (by walk_at "fr")
      have npl : l ≠ p := ne_of hl ho (by intro z; cases z)
      rw [upd_ne npl, hl, pushR, if_pos e]
end

theorem sc_Hand_between : FnScope ["self"] ["self"] (defScope s_Hand_between) := ⟨rfl, rfl, rfl, by decide +kernel, rfl, by decide +kernel, by decide +kernel⟩
section
variable {P : Program} {w : World} {K : PySem.W.Frag} {mg : Str → Option Value} {base : Heap}
def sp_Hand_between (K : PySem.W.Frag) : Sp := fun vs H Q _ => ∃ (p : Addr) (A : HA) (Z : HS), vs = [.ref p] ∧ HandAt K H p A Z ∧ ∀ r, H r = none → Q (.ref r) (upd H r (.tup [.int (min Z.line.caret Z.line.mark), .int (max Z.line.caret Z.line.mark)]))
theorem m_Hand_between (T : Tx K mg) : Mt P w K mg base (He.ga K "Hand") "between" 3 ["self"] (sp_Hand_between K) := by
  obtain ⟨fd, F⟩ := T.c.d.def_ 66 (d := d_Hand_between) rfl
  refine ⟨_, fd, F.ok (CX := L2.CX P w) sc_Hand_between (fun vs H Q E h => ?len) (fun cdv A outer s H vs Q E hr h => ?body), T.me_Hand_between, T.cl_Hand, F.bindsN fun _ _ _ _ _ _ us hl => match us, hl with | [_], _ => rfl⟩
  case len => obtain ⟨p, A, Z, rfl, h, k⟩ := h; rfl
  case body =>
    obtain ⟨p, A, Z, rfl, h, k⟩ := h
    refine ⟨_, (pss_one (ps_ret (pe_tup (pa_cons (pe_callB (call_mn rfl) rfl T.n_min (by decide +kernel) (pa_cons (pe_mt0 (pe_get T.cl_Hand T.na_Hand_line (pv 0)) (m_Line_at T) (hr.mono (by decide)) tkOf) (pa_cons (pe_mt0 (pe_get T.cl_Hand T.na_Hand_line (pv 0)) (m_Line_marked T) (hr.mono (by decide)) tkOf) pa_nil))) (pa_cons (pe_callB (call_mx rfl) rfl T.n_max (by decide +kernel) (pa_cons (pe_mt0 (pe_get T.cl_Hand T.na_Hand_line (pv 0)) (m_Line_at T) (hr.mono (by decide)) tkOf) (pa_cons (pe_mt0 (pe_get T.cl_Hand T.na_Hand_line (pv 0)) (m_Line_marked T) (hr.mono (by decide)) tkOf) pa_nil))) pa_nil))))), ?_⟩
    have ho := h.ob
    obtain ⟨dl, hol⟩ := h.li.ob
    walk_at "z"
    refine ⟨A.pl, A.lb, A.ll, Z.line, rfl, h.li, ?_⟩
    walk_at "z"
    refine ⟨A.pl, A.lb, A.ll, Z.line, rfl, h.li, ?_⟩
    walk_at "z"
    refine ⟨A.pl, A.lb, A.ll, Z.line, rfl, h.li, ?_⟩
    walk_at "z"
    refine ⟨A.pl, A.lb, A.ll, Z.line, rfl, h.li, ?_⟩
    walk_at "z"
    simp only [min_ite, max_ite]
    exact k
end

theorem sc_Hand_undo : FnScope ["self", "key"] ["self", "key"] (defScope s_Hand_undo) := ⟨rfl, rfl, rfl, by decide +kernel, rfl, by decide +kernel, by decide +kernel⟩
section
variable {P : Program} {w : World} {K : PySem.W.Frag} {mg : Str → Option Value} {base : Heap}
def sp_Hand_undo (K : PySem.W.Frag) : Sp := fun vs H Q _ => ∃ (p : Addr) (A : HA) (Z : HS) (key : Str), vs = [.ref p, .str key] ∧ HandAt K H p A Z ∧ LOk Z.line Z.n ∧ Z.n ≤ 90000 ∧ ∀ H' A', HandAt K H' p A' { Z with line := Z.line.undoK key } → Mq H H' p A A' → Q .non H'
theorem m_Hand_undo (T : Tx K mg) : Mt P w K mg base (He.ga K "Hand") "undo" 3 ["self", "key"] (sp_Hand_undo K) := by
  obtain ⟨fd, F⟩ := T.c.d.def_ 72 (d := d_Hand_undo) rfl
  refine ⟨_, fd, F.ok (CX := L2.CX P w) sc_Hand_undo (fun vs H Q E h => ?len) (fun cdv A outer s H vs Q E hr h => ?body), T.me_Hand_undo, T.cl_Hand, F.bindsN fun _ _ _ _ _ _ us hl => match us, hl with | [_, _], _ => rfl⟩
  case len => obtain ⟨p, A, Z, key, rfl, h, hL, hn, k⟩ := h; rfl
  case body =>
    obtain ⟨p, A, Z, key, rfl, h, hL, hn, k⟩ := h
    refine ⟨_, (pss_one (ps_if (pt_cmpR op_eq (pv 1) pe_str (nomark _)) (pss_one (ps_expr (pe_mt0 (pe_get T.cl_Hand T.na_Hand_line (pv 0)) (m_Line_undo T) (hr.mono (by decide)) tkOf))) (pss_one (ps_expr (pe_mt0 (pe_get T.cl_Hand T.na_Hand_line (pv 0)) (m_Line_redo T) (hr.mono (by decide)) tkOf))))), ?_⟩
    have ho := h.ob
    obtain ⟨dl, hol⟩ := h.li.ob
    have hb := hL.b
    have hl := hL.l
    walk_at "z"
    refine ite_b (fun h1 => ?_) (fun h1 => ?_)
    · have h1' : key = "undo" := by simpa using h1
      have et : Z.line.undoK key = Z.line.undo.2 := by unfold LineS.undoK; rw [if_pos h1']
      rw [et] at k
      walk_at "z"
      refine ⟨A.pl, A.lb, A.ll, Z.line, rfl, h.li, by omega, by omega, fun H' R f => ?_⟩
      obtain ⟨a, b⟩ := h.line f R nw_refl
      walk_at "z"
      exact k _ _ a b
    · have h1' : ¬ key = "undo" := by simpa using h1
      have et : Z.line.undoK key = Z.line.redo.2 := by unfold LineS.undoK; rw [if_neg h1']
      rw [et] at k
      walk_at "z"
      refine ⟨A.pl, A.lb, A.ll, Z.line, rfl, h.li, by omega, by omega, fun H' R f => ?_⟩
      obtain ⟨a, b⟩ := h.line f R nw_refl
      walk_at "z"
      exact k _ _ a b
end

theorem sc__law_draw : FnScope ["script", "town", "many"] ["script", "town", "many"] (defScope s__law_draw) := ⟨rfl, rfl, rfl, by decide +kernel, rfl, by decide +kernel, by decide +kernel⟩
section
variable {P : Program} {w : World} {K : PySem.W.Frag} {mg : Str → Option Value} {base : Heap}
/-- the town: a list that grows by one at each draw -/
def sp_law_draw (K : PySem.W.Frag) : Sp := fun vs H Q _ => ∃ (a t : Addr) (ns : List Int) (zs : List V) (m : Int), vs = [.ref a, .ref t, .int m] ∧ Scr K H a ns ∧ H t = some (.lst zs) ∧ zs.length < 100000 ∧ 0 < m ∧ ∀ (d : Int) (H' : Hp), 0 ≤ d → d < m → H' t = some (.lst (zs ++ [.int 0])) → Fr [t] H H' → Q (.int d) H'
theorem draw_bs {H : Hp} {Q : VK} {E : XK} {a t : Addr} {ns : List Int} {n : Nat} {m : Int} (B : Bs K H a t ns n) (hn : n < 100000) (hm : 0 < m) (k : ∀ (d : Int) (H' : Hp), 0 ≤ d → d < m → Bs K H' a t ns (n + 1) → Fr [t] H H' → Q (.int d) H') : sp_law_draw K [.ref a, .ref t, .int m] H Q E := by
  obtain ⟨hs, zs, tz, hz⟩ := id B
  exact ⟨a, t, ns, zs, m, rfl, hs, tz, by omega, hm, fun d H' d0 d1 t' f' => k d H' d0 d1 ⟨hs.fr f' B.wrs.mu, _, t', by simp; omega⟩ f'⟩
theorem f__law_draw (T : Tx K mg) : Fn P w K mg base "_law_draw" 3 ["script", "town", "many"] (sp_law_draw K) := by
  obtain ⟨fd, F⟩ := T.c.d.def_ 83 (d := d__law_draw) rfl
  refine ⟨_, fd, F.ok (CX := L2.CX P w) sc__law_draw (fun vs H Q E h => ?len) (fun cdv A outer s H vs Q E hr h => ?body), T.g__law_draw, F.kp, F.bindsN fun _ _ _ _ _ _ us hl => match us, hl with | [_, _, _], _ => rfl, FunD.bindsA F fun _ _ _ _ _ _ us hl => match us, hl with | [_, _, _], _ => rfl⟩
  case len => obtain ⟨a, t, ns, zs, m, rfl, hs, ht, hz, hm, k⟩ := h; rfl
  case body =>
    obtain ⟨a, t, ns, zs, m, rfl, hs, ht, hz, hm, k⟩ := h
    refine ⟨_, (pss_cons (ps_expr (pe_bmK (K := K) rfl PySem.F.plainAttrs_list PySem.F.slot_list_append PySem.F.type_list_append mt_append (pv 1) (pa_cons pe_int pa_nil)))
      (pss_one (ps_ret (pe_op op_mod (pe_op op_fdiv (pe_fn (f__law_mix T) (hr.mono (by decide)) tkOf (pa_cons (pv 0) (pa_cons (pe_callB (call_lnK (K := K) rfl) rfl T.n_len boot_len (pa_cons (pv 1) pa_nil)) pa_nil))) pe_int) (pv 2))))), ?_⟩
    walk_at "z"
    refine ⟨a, ns, _, rfl, hs.upd (Mu.lst ht), fun z hz0 => ?_⟩
    walk_at "z"
    refine z_i ⟨by decide, by decide⟩ ?_
    walk_at "z"
    exact z_i hm (k _ _ (Int.emod_nonneg _ (by omega)) (Int.emod_lt_of_pos _ hm) upd_same (by walk_at "fr"))
end

theorem sc__law_recased : FnScope ["text", "at", "way", "end", "letters", "k", "found", "sign", "is_great"] ["text", "at", "way"] (defScope s__law_recased) := ⟨rfl, rfl, rfl, by decide +kernel, rfl, by decide +kernel, by decide +kernel⟩
section
variable {P : Program} {w : World} {K : PySem.W.Frag} {mg : Str → Option Value} {base : Heap}
theorem inV_int {k : Int} {ns : List Int} : inV (.int k) (ns.map V.int) = decide (k ∈ ns) := by
  unfold inV
  rw [List.any_map]
  induction ns with
  | nil => simp
  | cons m r ih =>
    rw [List.any_cons, ih]
    by_cases h : m = k
    · subst h; simp [eqV]
    · have h' : ¬ k = m := fun z => h z.symm
      simp [eqV, h, h']
theorem filter_from {m d : Nat} {f : Nat → Bool} (hd : d ≤ m) (h1 : ∀ i, i < d → f i = false) (h2 : ∀ i, d ≤ i → i < m → f i = true) : (List.range m).filter f = List.range' d (m - d) := by
  rw [List.range_eq_range', show m = d + (m - d) by omega, ← List.range'_append_1, List.filter_append]
  rw [List.filter_eq_nil_iff.mpr, List.filter_eq_self.mpr, List.nil_append]
  · congr 1 <;> omega
  · intro i hi
    have := List.mem_range'_1.mp hi
    exact h2 i (by omega) (by omega)
  · intro i hi
    have := List.mem_range'_1.mp hi
    rw [h1 i (by omega)]; exact Bool.false_ne_true
def sp_law_recased (K : PySem.W.Frag) : Sp := fun vs H Q _ => ∃ (x : Str) (a : Int) (way : Str), vs = [.str x, .int a, .str way] ∧ okText x = true ∧ LineS.place x a ∧ (way = "great" ∨ way = "small" ∨ way = "cap") ∧ ∀ H' r, H r = none → Same H H' → H' r = some (.tup [.str (S (recL way (tl x) a.toNat)), .int (wEnd (tl x) a.toNat : Nat)]) → Q (.ref r) H'
theorem f__law_recased (T : Tx K mg) : Fn P w K mg base "_law_recased" 3 ["text", "at", "way"] (sp_law_recased K) := by
  obtain ⟨fd, F⟩ := T.c.d.def_ 88 (d := d__law_recased) rfl
  refine ⟨_, fd, F.ok (CX := L2.CX P w) sc__law_recased (fun vs H Q E h => ?len) (fun cdv A outer s H vs Q E hr h => ?body), T.g__law_recased, F.kp, F.bindsN fun _ _ _ _ _ _ us hl => match us, hl with | [_, _, _], _ => rfl, FunD.bindsA F fun _ _ _ _ _ _ us hl => match us, hl with | [_, _, _], _ => rfl⟩
  case len => obtain ⟨x, a, way, rfl, ok, pl, hway, k⟩ := h; rfl
  case body =>
    obtain ⟨x, a, way, rfl, ok, pl, hway, k⟩ := h
    refine ⟨_, (pss_cons (ps_set (i := 3) sc__law_recased.nd rfl (Or.inl rfl) (pe_fn (f__law_end T) (hr.mono (by decide)) tkOf (pa_cons (pv 0) (pa_cons (pv 1) pa_nil))))
      (pss_cons (ps_setLc (i := 4) (own := [("k", 5)]) rfl sc__law_recased.nd rfl rfl (sw_true rfl rfl rfl (by decide +kernel)) (pi_range2 rfl T.n_range (pa_cons (pv 1) (pa_cons (pv 3) pa_nil))) (blkOk_by (N := ["text", "at", "way", "end", "letters", "k", "found", "sign", "is_great"]) (sc := defScope s__law_recased) (by decide +kernel)) (fun _ _ _ _ _ => (pg_name (i := 5) sc__law_recased.nd rfl (Or.inl rfl))) (fun _ _ _ _ _ => (pts_one (pt_val (pe_fn (f__law_letter T) (hr.mono (by decide)) takes0 (pa_cons (pv 0) (pa_cons (pv 5) pa_nil)))))) (fun _ _ _ _ _ => (pv 5)))
      (pss_cons (ps_set (i := 6) sc__law_recased.nd rfl (Or.inl rfl) pe_str)
      (pss_cons (ps_for passOf rfl (pi_range1 rfl T.n_range (pa_cons (pe_callB (call_lnK (K := K) rfl) rfl T.n_len boot_len (pa_cons (pv 0) pa_nil)) pa_nil)) (pg_name (i := 5) sc__law_recased.nd rfl (Or.inl rfl)) (pss_cons (ps_set (i := 7) sc__law_recased.nd rfl (Or.inl rfl) (pe_ix ix_str (pv 0) (pv 5) (fun _ _ => rfl)))
      (Evl.pss_cut (ps_if (pt_cmpR (op_inK (K := K) rfl) (pv 5) (pv 4) rfl) (Evl.pss_cut (ps_set (i := 8) sc__law_recased.nd rfl (Or.inl rfl) (pe_or (pe_cmpR op_eq (pv 2) pe_str (nomark _)) (pe_one (pe_and (pe_cmpR op_eq (pv 2) pe_str (nomark _)) (pe_one (pe_cmpR op_eq (pv 5) (pe_ix (ix_listK (K := K) rfl) (pv 4) pe_int (fun _ _ => rfl)) (nomark _)))))))
      (pss_one (ps_set (i := 7) sc__law_recased.nd rfl (Or.inl rfl) (pe_ifExp (pt_val (pv 8)) (pe_bm0K (K := K) rfl PySem.F.plainAttrs_str PySem.F.slot_str_upper PySem.F.type_str_upper mt_upperN (pv 7)) (pe_bm0K (K := K) rfl PySem.F.plainAttrs_str PySem.F.slot_str_lower PySem.F.type_str_lower mt_lowerN (pv 7)))))) pss_nil)
      (pss_one (ps_set (i := 6) sc__law_recased.nd rfl (Or.inl rfl) (pe_op op_addS (pv 6) (pv 7)))))))
      (pss_one (ps_ret (pe_tup (pa_cons (pv 6) (pa_cons (pv 3) pa_nil))))))))), ?_⟩
    walk_at "z"
    refine ⟨x, a, rfl, ok, pl, fun H1 s1 => ?_⟩
    have e := len_tl x
    have hl := okText_len ok
    obtain ⟨n, rfl⟩ := Int.eq_ofNat_of_zero_le pl.1
    have hn : n ≤ (tl x).length := by have := pl.2; omega
    clear pl
    rw [show ((n : Int)).toNat = n by omega] at k ⊢
    obtain ⟨b1, b2⟩ := wBeg_le hn
    obtain ⟨e1, e2⟩ := wEnd_le hn
    have hnon := wBeg_non hn
    have hyes : ∀ j, wBeg (tl x) n ≤ j → j < wEnd (tl x) n → letAt (tl x) (j : Nat) = true := wRun_yes b2
    have hat := fun k => recL_at (way := way) (k := k) hn
    have hrl := len_recL (way := way) hn
    have hrok := recL_ok (way := way) hn (okText_all ok)
    generalize recL way (tl x) n = R at *
    generalize wBeg (tl x) n = s0 at *
    generalize wEnd (tl x) n = e0 at *
    walk_at "z"
    refine z_rng2e (by omega) ?_
    intro D hD
    refine lc_rngP (fun i => letAt (tl x) ((n : Int) + (i : Nat))) (fun i => .int ((n : Int) + (i : Nat))) (by omega) (by intro v; rfl) hD ?_ ?_ ?_
    · intro i H2 Q2 hi s2 q
      walk_at "z"
      refine ⟨x, _, rfl, ok, ?_⟩
      walk_at "z"
      exact q
    · intro i H2 Q2 hi hf s2 q
      walk_at "z"
      exact q
    have hL : (List.range ((e0 : Int) - (n : Int)).toNat).filter (fun i => letAt (tl x) ((n : Int) + (i : Nat))) = List.range' (s0 - n) (e0 - s0) := by
      rw [filter_from (d := s0 - n) (by omega)]
      · congr 1; omega
      · intro i hi
        rw [show (n : Int) + (i : Nat) = ((n + i : Nat) : Int) by omega]
        exact hnon _ (by omega) (by omega)
      · intro i hi hi2
        rw [show (n : Int) + (i : Nat) = ((n + i : Nat) : Int) by omega]
        exact hyes _ (by omega) (by omega)
    rw [hL]
    have hM : (List.range' (s0 - n) (e0 - s0)).map (fun i => V.int ((n : Int) + (i : Nat))) = ((List.range' s0 (e0 - s0)).map fun i => ((i : Nat) : Int)).map V.int := by
      rw [List.map_map, show s0 = n + (s0 - n) by omega, ← List.map_add_range', List.map_map]
      simp only [show n + (s0 - n) - n = s0 - n by omega, show e0 - (n + (s0 - n)) = e0 - s0 by omega]
      congr 1
    rw [hM]
    have s2 : Same H (upd H1 D (.lst (((List.range' s0 (e0 - s0)).map fun i => ((i : Nat) : Int)).map V.int))) := Same.new s1 hD
    have hD2 : upd H1 D (.lst (((List.range' s0 (e0 - s0)).map fun i => ((i : Nat) : Int)).map V.int)) D = some (.lst (((List.range' s0 (e0 - s0)).map fun i => ((i : Nat) : Int)).map V.int)) := upd_same
    generalize upd H1 D _ = H2 at s2 hD2 ⊢
    clear hD s1 hL hM
    walk_at "z"
    refine z_rng1e (by omega) (by omega) ?_
    refine fg_range (fun i σ' H' => ∃ v5 v7 v8, σ' = [some (.str x), some (.int (n : Nat)), some (.str way), some (.int (e0 : Nat)), some (.ref D), v5, some (.str (S (R.take i))), v7, v8] ∧ H' = H2) ?_ ?_ ?_
    · exact ⟨none, none, none, rfl, rfl⟩
    · rintro i σ' H' hi ⟨v5, v7, v8, rfl, rfl⟩
      have hi' : i < (tl x).length := by omega
      have hxi : (tl x)[i]? = some (tl x)[i] := List.getElem?_eq_getElem hi'
      generalize (tl x)[i] = c at hxi
      have hRi := hat i
      rw [hxi] at hRi
      have hc128 : c < 128 := okc_lt (List.all_eq_true.mp (okText_all ok) c (List.mem_of_getElem? hxi))
      have pc : plainS ⟨#[c]⟩ = true := by unfold plainS; show (decide (c < 128) && true) = true; rw [decide_eq_true hc128]; rfl
      walk_at "z"
      refine z_ixS (c := c) (by rw [sizeLine_eq]; omega) (by rw [Int.zero_add]; exact atI_nat hxi) ?_
      walk_at "z"
      refine z_cut (fun σ' H'' => ∃ v8 d, σ' = [some (.str x), some (.int (n : Nat)), some (.str way), some (.int (e0 : Nat)), some (.ref D), some (.int (0 + (i : Nat))), some (.str (S (R.take i))), some (.str ⟨#[d]⟩), v8] ∧ R[i]? = some d ∧ H'' = H') ?_ ?_
      · walk_at "z"
        refine z_in (.inl (SqL.of hD2)) rfl (by rw [List.all_map]; exact List.all_eq_true.mpr fun _ _ => rfl) ?_
        rw [inV_int]
        have hin : ((0 + (i : Nat) : Int) ∈ (List.range' s0 (e0 - s0)).map fun i => ((i : Nat) : Int)) ↔ (s0 ≤ i ∧ i < e0) := by
          rw [List.mem_map]
          constructor
          · rintro ⟨j, hj, ej⟩
            have := List.mem_range'_1.mp hj
            omega
          · intro h
            exact ⟨i, List.mem_range'_1.mpr (by omega), by omega⟩
        walk_at "z"
        refine ite_b (fun h1 => ?_) (fun h1 => ?_)
        · have h1' := hin.mp (by simpa using h1)
          walk_at "z"
          refine z_cut (fun σ' H'' => σ' = [some (.str x), some (.int (n : Nat)), some (.str way), some (.int (e0 : Nat)), some (.ref D), some (.int (0 + (i : Nat))), some (.str (S (R.take i))), some (.str ⟨#[c]⟩), some (.bl (decide (way = "great" ∨ (¬ way = "small" ∧ i = s0))))] ∧ H'' = H') ?_ ?_
          · walk_at "z"
            rcases hway with rfl | rfl | rfl
            · walk_at "z"
              exact ⟨rfl, rfl⟩
            · walk_at "z"
              exact ⟨rfl, rfl⟩
            · walk_at "z"
              refine z_ixL (v := .int (s0 : Nat)) (SqL.of hD2) ?_ ?_
              · refine atI_nat (j := 0) ?_
                rw [List.getElem?_map, List.getElem?_map, List.getElem?_range' (by omega)]
                rfl
              walk_at "z"
              refine ⟨?_, rfl⟩
              have : decide (V.int (0 + (i : Int)) = V.int ((s0 : Nat) : Int)) = decide ((Str.ofString "cap" = "great") ∨ (¬ (Str.ofString "cap") = "small" ∧ i = s0)) := by
                rw [decide_eq_decide]
                constructor
                · intro z
                  injection z with z
                  exact .inr ⟨by decide, by omega⟩
                · rintro (z | z)
                  · exact absurd z (by decide)
                  · rw [z.2, Int.zero_add]
              rw [this]
              rfl
          rintro σ' H'' ⟨rfl, rfl⟩
          simp only [Option.map_some, if_pos h1'] at hRi
          walk_at "z"
          refine ite_b (fun h2 => ?_) (fun h2 => ?_)
          · have h2' := of_decide_eq_true h2
            rw [if_pos h2'] at hRi
            walk_at "z"
            refine z_upper (by show 1 ≤ _; decide) ?_
            walk_at "z"
            have : Txt.upper ⟨#[c]⟩ = ⟨#[upc c]⟩ := by apply str_ext; rw [tl_upper pc]; rfl
            rw [this]
            exact ⟨_, _, rfl, hRi, rfl⟩
          · have h2' := of_decide_eq_false h2
            rw [if_neg h2'] at hRi
            walk_at "z"
            refine z_lower (by show 1 ≤ _; decide) ?_
            walk_at "z"
            have : Txt.lower ⟨#[c]⟩ = ⟨#[loc c]⟩ := by apply str_ext; rw [tl_lower pc]; rfl
            rw [this]
            exact ⟨_, _, rfl, hRi, rfl⟩
        · have h1' : ¬ (s0 ≤ i ∧ i < e0) := fun z => by
            rw [decide_eq_true (hin.mpr z)] at h1
            cases h1
          simp only [Option.map_some, if_neg h1'] at hRi
          walk_at "z"
          exact ⟨_, _, rfl, hRi, rfl⟩
      rintro σ' H'' ⟨v8', d, rfl, hd, rfl⟩
      walk_at "z"
      refine z_addS (by rw [len_S, List.length_take, sizeLine_eq]; show _ + 1 ≤ _; omega) ?_
      walk_at "z"
      have : S (R.take i) ++ ⟨#[d]⟩ = S (R.take (i + 1)) := by
        apply str_ext
        rw [tl_app, tl_S, tl_S, List.take_succ, hd]; rfl
      rw [this]
      exact ⟨_, _, _, rfl, rfl⟩
    rintro σ' H' ⟨v5, v7, v8, rfl, rfl⟩
    rw [show R.take ((x.length : Int)).toNat = R by rw [List.take_of_length_le]; omega]
    walk_at "z"
    intro r hr
    exact k _ r (fresh_of s2 hr) (Same.new s2 hr) upd_same
end

theorem sc__law_goal : FnScope ["text", "at", "key", "goals"] ["text", "at", "key"] (defScope s__law_goal) := ⟨rfl, rfl, rfl, by decide +kernel, rfl, by decide +kernel, by decide +kernel⟩
section
variable {P : Program} {w : World} {K : PySem.W.Frag} {mg : Str → Option Value} {base : Heap}
def sp_law_goal (K : PySem.W.Frag) : Sp := fun vs H Q _ => ∃ (L : LineS) (key : Str), vs = [.str L.now, .int L.caret, .str key] ∧ okText L.now = true ∧ LineS.place L.now L.caret ∧ key ∈ MOVES ∧ ∀ H', Same H H' → Q (.int (goalL L key)) H'
theorem f__law_goal (T : Tx K mg) : Fn P w K mg base "_law_goal" 3 ["text", "at", "key"] (sp_law_goal K) := by
  obtain ⟨fd, F⟩ := T.c.d.def_ 91 (d := d__law_goal) rfl
  refine ⟨_, fd, F.ok (CX := L2.CX P w) sc__law_goal (fun vs H Q E h => ?len) (fun cdv A outer s H vs Q E hr h => ?body), T.g__law_goal, F.kp, F.bindsN fun _ _ _ _ _ _ us hl => match us, hl with | [_, _, _], _ => rfl, FunD.bindsA F fun _ _ _ _ _ _ us hl => match us, hl with | [_, _, _], _ => rfl⟩
  case len => obtain ⟨L, key, rfl, ok, pl, hk, k⟩ := h; rfl
  case body =>
    obtain ⟨L, key, rfl, ok, pl, hk, k⟩ := h
    have hu := hu_of hr
    refine ⟨_, (pss_cons (ps_set (i := 3) sc__law_goal.nd rfl (Or.inl rfl) (pe_disp (pps_cons pe_str (pe_callB (call_mx rfl) rfl T.n_max (by decide +kernel) (pa_cons pe_int (pa_cons (pe_op op_sub (pv 1) pe_int) pa_nil))) (pps_cons pe_str (pe_callB (call_mn rfl) rfl T.n_min (by decide +kernel) (pa_cons (pe_callB (call_lnK (K := K) rfl) rfl T.n_len boot_len (pa_cons (pv 0) pa_nil)) (pa_cons (pe_op op_add (pv 1) pe_int) pa_nil))) (pps_cons pe_str pe_int (pps_cons pe_str (pe_callB (call_lnK (K := K) rfl) rfl T.n_len boot_len (pa_cons (pv 0) pa_nil)) pps_nil)))) (by rfl) (by rfl) (by intro z; cases z) (by decide)))
      (pss_cons (ps_dput hu (pv 3) pe_str (pe_fn (f__law_start T) (hr.mono (by decide)) tkOf (pa_cons (pv 0) (pa_cons (pv 1) pa_nil))) rfl)
      (pss_cons (ps_dput hu (pv 3) pe_str (pe_fn (f__law_end T) (hr.mono (by decide)) tkOf (pa_cons (pv 0) (pa_cons (pv 1) pa_nil))) rfl)
      (pss_one (ps_ret (pe_dget hu (pv 3) (pv 2) (fun _ _ => rfl))))))), ?_⟩
    have l4 := okText_len ok
    obtain ⟨p0, p1⟩ := id pl
    walk_at "z"
    intro d hd
    walk_at "z"
    simp only [min_ite, max_ite]
    refine ⟨upd_same, [(.inr "left", .int (max 0 (L.caret - 1))), (.inr "right", .int (min (L.now.length : Int) (L.caret + 1))), (.inr "home", .int 0), (.inr "end", .int (L.now.length : Int))], rfl, (by show 4 ≤ 15; decide), ?_⟩
    walk_at "z"
    have s1 : Same H (upd (upd H d (.dK [])) d (.dK (mergeK [] [(.inr "left", .int (max 0 (L.caret - 1))), (.inr "right", .int (min (L.now.length : Int) (L.caret + 1))), (.inr "home", .int 0), (.inr "end", .int (L.now.length : Int))]))) := by walk_at "sa"
    have h1 : upd (upd H d (.dK [])) d (.dK (mergeK [] [(.inr "left", .int (max 0 (L.caret - 1))), (.inr "right", .int (min (L.now.length : Int) (L.caret + 1))), (.inr "home", .int 0), (.inr "end", .int (L.now.length : Int))])) d = some (.dK (mergeK [] [(.inr "left", .int (max 0 (L.caret - 1))), (.inr "right", .int (min (L.now.length : Int) (L.caret + 1))), (.inr "home", .int 0), (.inr "end", .int (L.now.length : Int))])) := upd_same
    have g1 : DG (mergeK [] [(.inr "left", .int (max 0 (L.caret - 1))), (.inr "right", .int (min (L.now.length : Int) (L.caret + 1))), (.inr "home", .int 0), (.inr "end", .int (L.now.length : Int))]) "left" (.int (max 0 (L.caret - 1))) := by rfl
    have g2 : DG (mergeK [] [(.inr "left", .int (max 0 (L.caret - 1))), (.inr "right", .int (min (L.now.length : Int) (L.caret + 1))), (.inr "home", .int 0), (.inr "end", .int (L.now.length : Int))]) "right" (.int (min (L.now.length : Int) (L.caret + 1))) := by rfl
    have g3 : DG (mergeK [] [(.inr "left", .int (max 0 (L.caret - 1))), (.inr "right", .int (min (L.now.length : Int) (L.caret + 1))), (.inr "home", .int 0), (.inr "end", .int (L.now.length : Int))]) "home" (.int 0) := by rfl
    have g4 : DG (mergeK [] [(.inr "left", .int (max 0 (L.caret - 1))), (.inr "right", .int (min (L.now.length : Int) (L.caret + 1))), (.inr "home", .int 0), (.inr "end", .int (L.now.length : Int))]) "end" (.int (L.now.length : Int)) := by rfl
    have hlen : (mergeK [] [(.inr "left", .int (max 0 (L.caret - 1))), (.inr "right", .int (min (L.now.length : Int) (L.caret + 1))), (.inr "home", .int 0), (.inr "end", .int (L.now.length : Int))]).length ≤ 4 := Nat.le_trans (length_mergeK _ _) (by show 0 + 4 ≤ 4; decide)
    generalize mergeK [] [((.inr (Str.ofString "left") : Key), V.int (max 0 (L.caret - 1))), (.inr "right", .int (min (L.now.length : Int) (L.caret + 1))), (.inr "home", .int 0), (.inr "end", .int (L.now.length : Int))] = kv at *
    generalize upd (upd H d (.dK [])) d _ = H1 at *
    refine ⟨L.now, L.caret, rfl, ok, pl, fun H2 s2 => ?_⟩
    have h2 := s2 _ _ h1
    walk_at "z"
    have h3 : upd H2 d (.dK (putK kv (.inr "wordleft") (.int (wStart (tl L.now) L.caret.toNat : Nat)))) d = some (.dK (putK kv (.inr "wordleft") (.int (wStart (tl L.now) L.caret.toNat : Nat)))) := upd_same
    have f3 : Same H (upd H2 d (.dK (putK kv (.inr "wordleft") (.int (wStart (tl L.now) L.caret.toNat : Nat))))) := Same.own (s1.trans s2) hd
    generalize upd H2 d _ = H3 at *
    refine ⟨L.now, L.caret, rfl, ok, pl, fun H4 s4 => ?_⟩
    have h4 := s4 _ _ h3
    have f5 : Same H (upd H4 d (.dK (putK (putK kv (.inr "wordleft") (.int (wStart (tl L.now) L.caret.toNat : Nat))) (.inr "wordright") (.int (wEnd (tl L.now) L.caret.toNat : Nat))))) := Same.own (f3.trans s4) hd
    simp only [MOVES, List.mem_cons, List.not_mem_nil, or_false] at hk
    rcases hk with rfl | rfl | rfl | rfl | rfl | rfl
    all_goals walk_at "z"
    · refine z_dget1 upd_same (dg_ne rfl (dg_ne rfl g1)) ?_
      exact k _ f5
    · refine z_dget1 upd_same (dg_ne rfl (dg_ne rfl g2)) ?_
      exact k _ f5
    · refine z_dget1 upd_same (dg_ne rfl (dg_ne rfl g3)) ?_
      exact k _ f5
    · refine z_dget1 upd_same (dg_ne rfl (dg_ne rfl g4)) ?_
      exact k _ f5
    · refine z_dget1 upd_same (dg_ne rfl dg_same) ?_
      exact k _ f5
    · exact k _ f5
end

theorem sc__law_searched : FnScope ["state", "key", "spot", "lost", "part", "start", "found", "entry"] ["state", "key"] (defScope s__law_searched) := ⟨rfl, rfl, rfl, by decide +kernel, rfl, by decide +kernel, by decide +kernel⟩
section
variable {P : Program} {w : World} {K : PySem.W.Frag} {mg : Str → Option Value} {base : Heap}
/-- keys of this law -/
def SK : List Str := ["search", "rub", "cancel", "enter", "home", "up", "down", "undo", "left"]
def sK (key : Str) : Bool := isSign key || decide (key ∈ SK)
def sp_law_searched (K : PySem.W.Frag) : Sp := fun vs H Q _ => ∃ (d sb sl lk ls lt : Addr) (kvs : List (Key × V)) (fp : List Addr) (Z : HS) (q : SrchS) (key : Str), vs = [.ref d, .str key] ∧ S3 H d sb sl lk ls lt kvs Z.line Z.hist Z.ent fp (some q) ∧ Z.Ok ∧ Z.srch = some q ∧ Z.n ≤ 50000 ∧ sK key = true ∧ ∀ H' sb' sl' kvs' fp', Nw H [d, sb, sl, lk, ls, lt] [d, sb', sl', lk, ls, lt] → (∀ y ∈ fp', y ∈ fp ∨ H y = none) → S3 H' d sb' sl' lk ls lt kvs' (Z.searched q key).2.line (Z.searched q key).2.hist Z.ent fp' (Z.searched q key).2.srch → Fr ([d, sb, sl, lk, ls, lt] ++ fp) H H' → Q (.bl (Z.searched q key).1) H'
theorem Sr3.putPart {H : Hp} {d : Addr} {kvs : List (Key × V)} {fp : List Addr} {q : SrchS} {x : Str} (R : Sr3 H kvs fp (some q)) (ho : H d = some (.dK kvs)) (nd : d ∉ fp) : Sr3 (upd H d (.dK (putK kvs (.inr "part") (.str x)))) (putK kvs (.inr "part") (.str x)) fp (some { q with part := x }) := by
  obtain ⟨rw, rn, lt2, a, b, c, e, g, h, rfl⟩ := R
  have f : Fr [d] H (upd H d (.dK (putK kvs (.inr "part") (.str x)))) := Fr.upd Fr.refl (by simp)
  have w : Wrs H [d] := .cons (.dK ho) wrs_nil
  exact ⟨rw, rn, lt2, dg_ne rfl a, f _ _ b (fun z => w.nt _ z _ b), c.fr f w.nt, dg_same, dg_ne rfl g, h.fr f w.nt (fun z => nd (by rw [← List.mem_singleton.mp z]; simp)), rfl⟩
/-- the trail is another one -/
theorem S3.putTrail {H H' : Hp} {d sb sl lk ls lt lt3 : Addr} {kvs : List (Key × V)} {M : LineS} {hq : HistS} {ent : List Str} {fp : List Addr} {q : SrchS} {es : List Ent} {S : List Addr} (R : S3 H d sb sl lk ls lt kvs M hq ent fp (some q)) (f : Fr S H H') (w : Wrs H S) (n : Ap [d, sb, sl, lk, ls, lt] S) (g : DG kvs "trail" (.ref lt3)) (hT : TrailAt H' lt3 es) (nl : lt3 ∉ [d, sb, sl, lk, ls, lt]) : S3 H' d sb sl lk ls lt kvs M hq ent [lt3] (some { q with trail := es }) := by
  obtain ⟨rw, rn, lt2, a, b, c, e, _, _, _⟩ := R.sr
  exact ⟨R.s2.fr f w n, ⟨rw, rn, lt3, a, f _ _ b (fun z => w.nt _ z _ b), c.fr f w.nt, e, g, hT, rfl⟩, fun y hy => by rw [List.mem_singleton.mp hy]; exact nl, R.sm⟩
/-- a key of the dict that a search stores is put again -/
theorem S3.putKey {H : Hp} {d sb sl lk ls lt : Addr} {kvs : List (Key × V)} {M : LineS} {hq : HistS} {ent : List Str} {fp fp' : List Addr} {s s' : Option SrchS} {x : Str} {v : V} (R : S3 H d sb sl lk ls lt kvs M hq ent fp s) (hx : x ∉ s2K) (hh : Has kvs x) (hS : Sr3 (upd H d (.dK (putK kvs (.inr x) v))) (putK kvs (.inr x) v) fp' s') (nf : Ap fp' [d, sb, sl, lk, ls, lt]) : S3 (upd H d (.dK (putK kvs (.inr x) v))) d sb sl lk ls lt (putK kvs (.inr x) v) M hq ent fp' s' := by
  obtain ⟨w0, hw0⟩ := hh
  have f : Fr [d] H (upd H d (.dK (putK kvs (.inr x) v))) := Fr.upd Fr.refl (by simp)
  have hn : ∀ y ∈ [lk, ls, lt], y ∉ [d] := fun y hy z => R.s2.ap y hy (by simp only [List.mem_singleton] at z; rw [z]; simp)
  have n : ∀ y ∈ s2K, (y == x) = false := fun y hy => beq_eq_false_iff_ne.mpr fun z => hx (z ▸ hy)
  have hst : x ∉ stK := fun z => hx (List.mem_append_left _ z)
  have hl := put_len (v := v) hw0
  refine ⟨⟨R.s2.st.putOther hst (by rw [hl]; exact R.s2.st.len), dg_ne (n _ (by decide)) R.s2.kk, dg_ne (n _ (by decide)) R.s2.ks, dg_ne (n _ (by decide)) R.s2.kh, dg_ne (n _ (by decide)) R.s2.kt, f _ _ R.s2.hk (hn lk (by simp)), f _ _ R.s2.hs (hn ls (by simp)), f _ _ R.s2.ht (hn lt (by simp)), R.s2.n1, R.s2.n2, R.s2.n3, R.s2.ap⟩, hS, nf, R.sm.1.put, ?_⟩
  exact R.sm.2.imp (fun z => by rw [hl]; exact z) fun z => ⟨by rw [hl]; exact z.1, z.2.1.put, z.2.2.put⟩
theorem S3.setTrail {H : Hp} {d sb sl lk ls lt lt2 : Addr} {kvs : List (Key × V)} {M : LineS} {hq : HistS} {ent : List Str} {fp : List Addr} {q : SrchS} {rs : List Addr} {es : List Ent} {xs : List V} (R : S3 H d sb sl lk ls lt kvs M hq ent fp (some q)) (g : DG kvs "trail" (.ref lt2)) (h : H lt2 = some (.lst xs)) (hp : Paired (EntAt H) rs es) (nl : lt2 ∉ [d, sb, sl, lk, ls, lt]) : S3 (upd H lt2 (.lst (rs.map V.ref))) d sb sl lk ls lt kvs M hq ent [lt2] (some { q with trail := es }) := by
  have f : Fr [lt2] H (upd H lt2 (.lst (rs.map V.ref))) := Fr.upd Fr.refl (by simp)
  have w : Wrs H [lt2] := (wr1_lst h).1
  exact R.putTrail f w (fun y hy z => nl (by rw [← List.mem_singleton.mp z]; exact hy)) g ⟨rs, upd_same, Paired.mapP hp fun _ _ z => z.fr f w.nt⟩ nl
theorem nw_back {H H' : Hp} {X X' fp : List Addr} {lt2 : Addr} (f : Fr (X ++ fp) H H') (e : fp = [lt2]) (al : H' lt2 ≠ none) (nw : Nw H' X X') : Nw H X X' := by
  intro y hy
  rcases nw y hy with z | z
  · exact .inl z
  · by_cases hy2 : y ∈ X
    · exact .inl hy2
    · refine .inr (f.free z fun q2 => ?_)
      rcases List.mem_append.mp q2 with w | w
      · exact hy2 w
      · rw [e] at w
        rw [List.mem_singleton.mp w] at z
        exact al z
theorem FrN.nw {H H' : Hp} {X fp : List Addr} {lt2 y : Addr} (f : Fr (X ++ fp) H H') (e : H' y = none) (ef : fp = [lt2]) (al : Alive H' fp) (aX : Alive H' X) : y = lt2 ∨ H y = none := by
  refine .inr (f.free e fun z => ?_)
  rcases List.mem_append.mp z with w | w
  · exact aX y w e
  · exact al y w e
theorem refs_inj : ∀ {a b : List Addr}, a.map V.ref = b.map V.ref → a = b
  | [], [], _ => rfl
  | [], _ :: _, h => by simp at h
  | _ :: _, [], h => by simp at h
  | x :: r, y :: s, h => by
    rw [List.map_cons, List.map_cons] at h
    injection h with h1 h2
    injection h1 with h1
    rw [h1, refs_inj h2]
theorem app_empty {x : Str} : x ++ ("" : Str) = x := str_ext (by rw [tl_app]; show tl x ++ [] = _; rw [List.append_nil])
theorem f__law_searched (T : Tx K mg) : Fn P w K mg base "_law_searched" 3 ["state", "key"] (sp_law_searched K) := by
  obtain ⟨fd, F⟩ := T.c.d.def_ 103 (d := d__law_searched) rfl
  refine ⟨_, fd, F.ok (CX := L2.CX P w) sc__law_searched (fun vs H Q E h => ?len) (fun cdv A outer s H vs Q E hr h => ?body), T.g__law_searched, F.kp, F.bindsN fun _ _ _ _ _ _ us hl => match us, hl with | [_, _], _ => rfl, FunD.bindsA F fun _ _ _ _ _ _ us hl => match us, hl with | [_, _], _ => rfl⟩
  case len => obtain ⟨d, sb, sl, lk, ls, lt, kvs, fp, Z, q, key, rfl, R, hO, hs, hn, hk, k⟩ := h; rfl
  case body =>
    obtain ⟨d, sb, sl, lk, ls, lt, kvs, fp, Z, q, key, rfl, R, hO, hs, hn, hk, k⟩ := h
    have hu := hu_of hr
    refine ⟨_, (pss_cons (ps_asg (pe_ix (ix_listK (K := K) rfl) (pe_dget hu (pv 0) pe_str (fun _ _ => rfl)) (pe_un un_neg pe_int) (fun _ _ => rfl)) (pg_tupK (K := K) (n := 3) rfl rfl (pgs_cons (pg_name (i := 2) sc__law_searched.nd rfl (Or.inl rfl)) (pgs_cons (pg_name (i := 3) sc__law_searched.nd rfl (Or.inl rfl)) (pgs_cons (pg_name (i := 4) sc__law_searched.nd rfl (Or.inl rfl)) pgs_nil)))))
      (Evl.pss_cut (ps_set (i := 5) sc__law_searched.nd rfl (Or.inl rfl) (pe_ifExp (pt_cmpR op_isNon (pv 2) pe_non (nomark _)) (pe_ix (ix_tupK (K := K) rfl) (pe_dget hu (pv 0) pe_str (fun _ _ => rfl)) pe_int (fun _ _ => rfl)) (pv 2)))
      (pss_cons (ps_if (PW.pt (pw_or (pt_cmpR op_eq (pe_callB (call_lnK (K := K) rfl) rfl T.n_len boot_len (pa_cons (pv 1) pa_nil)) pe_int (nomark _)) (pw_or1 (pt_cmpR op_eq (pv 1) pe_str (nomark _))))) (pss_cons (ps_dput hu (pv 0) pe_str (pe_op op_addS (pe_dget hu (pv 0) pe_str (fun _ _ => rfl)) (pe_ifExp (pt_cmpR op_eq (pe_callB (call_lnK (K := K) rfl) rfl T.n_len boot_len (pa_cons (pv 1) pa_nil)) pe_int (nomark _)) (pv 1) pe_str)) rfl)
      (pss_cons (ps_set (i := 6) sc__law_searched.nd rfl (Or.inl rfl) (pe_fn (f__law_find T) (hr.mono (by decide)) tkOf (pa_cons (pv 0) (pa_cons (pe_dget hu (pv 0) pe_str (fun _ _ => rfl)) (pa_cons (pe_op op_sub (pv 5) (pe_callTy call_int1N rfl T.n_int (by decide +kernel) (pa_cons (pe_cmpR op_eq (pv 1) pe_str (nomark _)) pa_nil))) pa_nil)))))
      (pss_cons (ps_set (i := 7) sc__law_searched.nd rfl (Or.inl rfl) (pe_ifExp (pt_cmpR op_isNon (pv 6) pe_non (nomark _)) (pe_tup (pa_cons (pv 2) (pa_cons pe_bl (pa_cons (pv 4) pa_nil)))) (pe_tup (pa_cons (pv 6) (pa_cons pe_bl (pa_cons (pe_dget hu (pv 0) pe_str (fun _ _ => rfl)) pa_nil))))))
      (pss_cons (ps_if (pt_cmpR op_eq (pv 1) pe_str (nomark _)) (pss_one (ps_expr (pe_bm0K (K := K) rfl PySem.F.plainAttrs_list PySem.F.slot_list_pop PySem.F.type_list_pop mt_pop (pe_dget hu (pv 0) pe_str (fun _ _ => rfl))))) pss_nil)
      (pss_cons (ps_expr (pe_bmK (K := K) rfl PySem.F.plainAttrs_list PySem.F.slot_list_append PySem.F.type_list_append mt_append (pe_dget hu (pv 0) pe_str (fun _ _ => rfl)) (pa_cons (pv 7) pa_nil)))
      (pss_cons (ps_if (pt_cmpR op_notNon (pv 6) pe_non (nomark _)) (pss_one (ps_expr (pe_fn (f__law_show T) (hr.mono (by decide)) tkOf (pa_cons (pv 0) pa_nil)))) pss_nil)
      (pss_one (ps_ret pe_bl)))))))) pss_nil)
      (pss_cons (ps_if (pt_cmpR op_eq (pv 1) pe_str (nomark _)) (pss_cons (ps_dput hu (pv 0) pe_str (pe_slice sl_str (pe_dget hu (pv 0) pe_str (fun _ _ => rfl)) po_none (po_some (pe_un un_neg pe_int))) rfl)
      (pss_cons (ps_dput hu (pv 0) pe_str (pe_ifExp (pt_cmpR op_gt (pe_callB (call_lnK (K := K) rfl) rfl T.n_len boot_len (pa_cons (pe_dget hu (pv 0) pe_str (fun _ _ => rfl)) pa_nil)) pe_int (nomark _)) (pe_slice (sl_listK (K := K) rfl) (pe_dget hu (pv 0) pe_str (fun _ _ => rfl)) po_none (po_some (pe_un un_neg pe_int))) (pe_dget hu (pv 0) pe_str (fun _ _ => rfl))) rfl)
      (pss_cons (ps_expr (pe_fn (f__law_show T) (hr.mono (by decide)) tkOf (pa_cons (pv 0) pa_nil)))
      (pss_one (ps_ret pe_bl))))) pss_nil)
      (pss_cons (ps_if (pt_cmpR op_eq (pv 1) pe_str (nomark _)) (pss_cons (ps_dput hu (pv 0) pe_str (pe_lst (pa_cons (pe_tup (pa_cons pe_non (pa_cons pe_bl (pa_cons pe_str pa_nil)))) pa_nil)) rfl)
      (pss_one (ps_expr (pe_fn (f__law_show T) (hr.mono (by decide)) tkOf (pa_cons (pv 0) pa_nil))))) pss_nil)
      (pss_cons (ps_dput hu (pv 0) pe_str pe_non rfl)
      (pss_one (ps_ret (pe_cmpR op_eq (pv 1) pe_str (nomark _)))))))))), ?_⟩
    obtain ⟨rw0, rn, lt2, gw, hrw, hrn, gp, gt, hT, efp⟩ := id R.sr
    have hS := (hO.sr q hs).1
    obtain ⟨rs, r, hl2, hpr, hP⟩ := trail_ends hT hS.ne
    have hP : H r = some (.tup [optV q.last.at_, .bl q.last.lost, .str q.last.part]) := hP
    have ho := R.s2.st.ob
    have hlen := R.s2.st.len
    walk_at "z"
    refine z_ixL (v := .ref r) (SqL.of hl2) (by rw [List.map_append]; exact atI_last _ _) ?_
    walk_at "z"
    have hhl := HS.here_le hS
    have hkl := hO.hi.l
    refine z_cut (fun σ' H' => σ' = [some (.ref d), some (.str key), some (optV q.last.at_), some (.bl q.last.lost), some (.str q.last.part), some (.int (q.here : Nat)), none, none] ∧ H' = H) ?_ ?_
    · unfold SrchS.here
      cases eA : q.last.at_ with
      | none =>
        walk_at "z"
        exact ⟨rfl, rfl⟩
      | some j =>
        walk_at "z"
        exact ⟨rfl, rfl⟩
    rintro σ' H1 ⟨rfl, rfl⟩
    have ndfp : d ∉ fp := fun z => R.nf d z (by simp)
    have nl2 : lt2 ∉ [d, sb, sl, lk, ls, lt] := R.nf lt2 (by rw [efp]; simp)
    have lpart := hS.pl
    have hkx : key.length ≤ 400 := by
      unfold sK at hk
      rw [Bool.or_eq_true] at hk
      rcases hk with z | z
      · obtain ⟨c, rfl, _⟩ := sign_len z
        show 1 ≤ 400; decide
      · exact (by decide +kernel : ∀ k ∈ SK, k.length ≤ 400) key (of_decide_eq_true z)
    have hkx' : key.length ≤ sizeLine := by rw [sizeLine_eq]; omega
    unfold HS.searched at k
    by_cases sg : isSign key = true
    · rw [if_pos sg] at k
      have lk1 : (key.length : Int) = 1 := by obtain ⟨c, rfl, _⟩ := sign_len sg; rfl
      have ns : ¬ key = "search" := sign_no sg (by decide)
      have eK : decide (V.int (key.length : Int) = V.int 1) = true := decide_eq_true (by rw [lk1])
      have okS := (hO.searched hs key).1
      unfold HS.searched at okS
      rw [if_pos sg] at okS
      walk_at "z"
      have RP := R.putKey (x := "part") (v := .str (q.part ++ key)) (by decide) ⟨_, gp⟩ (R.sr.putPart ho ndfp) R.nf
      have f2 : Fr ([d, sb, sl, lk, ls, lt] ++ fp) H1 (upd H1 d (.dK (putK kvs (.inr "part") (.str (q.part ++ key))))) := Fr.upd Fr.refl (by simp)
      have gp2 : DG (putK kvs (.inr "part") (.str (q.part ++ key))) "part" (.str (q.part ++ key)) := dg_same
      have gt2 : DG (putK kvs (.inr "part") (.str (q.part ++ key))) "trail" (.ref lt2) := dg_ne rfl gt
      rw [if_neg (show ¬ decide (V.str key = V.str "search") = true by simpa using ns)]
      clear ho
      generalize putK kvs (.inr (Str.ofString "part")) (.str (q.part ++ key)) = kv2 at *
      generalize upd H1 d _ = H2 at RP f2 ⊢
      refine ⟨d, lk, kv2, Z.hist.kept, q.part ++ key, _, rfl, RP.s2.st.ob, RP.s2.kk, RP.s2.hk, by omega, fun H3 s3 => ?_⟩
      have R3 := RP.same s3
      have f3 : Fr ([d, sb, sl, lk, ls, lt] ++ fp) H1 H3 := f2.trans (Fr.same s3)
      clear RP s3 f2
      rw [show ((q.here : Nat) : Int) - 0 = ((q.here : Nat) : Int) by omega]
      have hnot : ({ q with part := q.part ++ key } : SrchS).entry (findH Z.hist.kept (q.part ++ key) q.here) = (match findH Z.hist.kept (q.part ++ key) q.here with | none => ⟨q.last.at_, true, q.last.part⟩ | some j => ⟨some j, false, q.part ++ key⟩) := by
        unfold SrchS.entry
        cases findH Z.hist.kept (q.part ++ key) q.here <;> rfl
      have e2 : ({ q with part := q.part ++ key } : SrchS).note (findH Z.hist.kept (q.part ++ key) q.here) true = { q with part := q.part ++ key, trail := q.trail ++ [(match findH Z.hist.kept (q.part ++ key) q.here with | none => ⟨q.last.at_, true, q.last.part⟩ | some j => ⟨some j, false, q.part ++ key⟩)] } := by
        unfold SrchS.note
        rw [hnot]; rfl
      rw [e2] at k okS
      clear e2 hnot
      obtain ⟨_, _, lt3, _, _, _, _, gt3, ⟨rs3, hl3, hp3⟩, ef3⟩ := id R3.sr
      obtain rfl : lt3 = lt2 := by rw [efp] at ef3; injection ef3 with z _; exact z.symm
      have ltl : rs3.length ≤ 50002 := by rw [paired_len hp3]; show q.trail.length ≤ _; have := hS.tl; omega
      have ho := R3.s2.st.ob
      have hkey2 : ∀ {A B : Prop}, B → (if decide (V.str key = V.str "search") = true then A else B) := fun b => by rw [if_neg (by simpa using ns)]; exact b
      cases hfo : findH Z.hist.kept (q.part ++ key) q.here with
      | none =>
        rw [hfo] at k okS
        dsimp only at k
        rw [seek_parts.1, seek_parts.2.1, seek_parts.2.2, last_snoc, if_neg (by exact Bool.false_ne_true), if_neg (by exact Bool.false_ne_true)] at k
        walk_at "z"
        intro te hte
        have s4 : Same H3 (upd H3 te (.tup [optV q.last.at_, .bl true, .str q.last.part])) := Same.new (Same.refl _) hte
        have he4 : EntAt (upd H3 te (.tup [optV q.last.at_, .bl true, .str q.last.part])) te ⟨q.last.at_, true, q.last.part⟩ := upd_same
        have R4 := R3.same s4
        have hl4 := s4 _ _ hl3
        have hp4 := Paired.mapP hp3 fun _ _ z => (show EntAt _ _ _ from s4 _ _ z)
        clear ho
        generalize upd H3 te _ = H4 at s4 he4 R4 hl4 hp4 ⊢
        have ho := R4.s2.st.ob
        walk_at "z"
        refine hkey2 ?_
        walk_at "z"
        have R5 := R4.setTrail gt3 hl4 (paired_snoc hp4 he4) nl2
        rw [List.map_append] at R5
        exact k _ sb sl kv2 [lt3] nw_refl (fun y hy => .inl (by rw [efp]; exact hy)) R5 (Fr.upd (f3.trans (Fr.same s4)) (by rw [efp]; simp))
      | some j =>
        rw [hfo] at k okS
        dsimp only at k okS
        have hS2 := (okS.sr _ seek_parts.2.2).1
        rw [seek_parts.2.1, last_snoc, if_pos (by exact rfl)] at hS2
        rw [seek_parts.1, seek_parts.2.1, seek_parts.2.2, last_snoc, if_pos (by exact rfl), if_pos (by exact rfl)] at k
        walk_at "z"
        intro te hte
        generalize hG : upd H3 te _ = H4
        have s4 : Same H3 H4 := by rw [← hG]; exact Same.new (Same.refl _) hte
        have he4 : EntAt H4 te ⟨some j, false, q.part ++ key⟩ := by rw [← hG]; exact upd_same
        clear hG
        have R4 := R3.same s4
        have hl4 := s4 _ _ hl3
        have hp4 := Paired.mapP hp3 fun _ _ z => (show EntAt _ _ _ from s4 _ _ z)
        clear ho
        have ho := R4.s2.st.ob
        walk_at "z"
        refine hkey2 ?_
        walk_at "z"
        have R5 := R4.setTrail gt3 hl4 (paired_snoc hp4 he4) nl2
        rw [List.map_append] at R5
        change S3 (upd H4 lt3 (.lst (rs3.map V.ref ++ [.ref te]))) _ _ _ _ _ _ _ _ _ _ _ _ at R5
        have f5 : Fr ([d, sb, sl, lk, ls, lt] ++ fp) H1 (upd H4 lt3 (.lst (rs3.map V.ref ++ [.ref te]))) := Fr.upd (f3.trans (Fr.same s4)) (by rw [efp]; simp)
        clear ho
        generalize upd H4 lt3 _ = H5 at R5 f5 ⊢
        have hS3 : SOk { q with part := q.part ++ key, trail := q.trail ++ [⟨some j, false, q.part ++ key⟩] } Z.hist.kept 100000 := by
          have hk0 : (showL Z.hist { q with part := q.part ++ key, trail := q.trail ++ [⟨some j, false, q.part ++ key⟩] }).2.kept = Z.hist.kept := by
            unfold showL; split <;> rfl
          rw [hk0] at hS2
          exact HS.SOk.mono hS2 (by show (Z.seek _ false).n ≤ _; rw [HS.seek_n]; omega)
        refine ⟨d, sb, sl, lk, ls, lt, kv2, Z.line, Z.hist, Z.ent, [lt3], _, rfl, R5, hO.hi, hS3, fun H6 sb6 sl6 kv6 fp6 nw6 sub6 R6 x6 f6 => ?_⟩
        walk_at "z"
        refine k H6 sb6 sl6 kv6 fp6 ?_ (fun y hy => .inl (by rw [efp]; exact sub6 y hy)) R6 (f5.trans (f6.mono fun _ h => List.mem_append_left _ h))
        intro y hy
        rcases nw6 y hy with z | z
        · exact .inl z
        · by_cases hy2 : y ∈ [d, sb, sl, lk, ls, lt]
          · exact .inl hy2
          · refine .inr (f5.free z fun q2 => ?_)
            rcases List.mem_append.mp q2 with w | w
            · exact hy2 w
            · rw [efp] at w
              rw [List.mem_singleton.mp w] at z
              exact (R5.sr.wr.2 lt3 (by simp)) z
    rw [if_neg sg] at k
    by_cases ns : key = "search"
    · subst ns
      rw [if_pos rfl] at k
      have eK : decide (V.int ((Str.ofString "search").length : Int) = V.int 1) = false := by decide +kernel
      have okS := (hO.searched hs "search").1
      unfold HS.searched at okS
      rw [if_neg sg, if_pos rfl] at okS
      have le0 : (Str.ofString "").length = 0 := rfl
      walk_at "z"
      rw [app_empty, if_pos (show decide (V.str (Str.ofString "search") = V.str (Str.ofString "search")) = true from decide_eq_true rfl)]
      have RP := R.putKey (x := "part") (v := .str q.part) (by decide) ⟨_, gp⟩ (R.sr.putPart (x := q.part) ho ndfp) R.nf
      have f2 : Fr ([d, sb, sl, lk, ls, lt] ++ fp) H1 (upd H1 d (.dK (putK kvs (.inr "part") (.str q.part)))) := Fr.upd Fr.refl (by simp)
      have gp2 : DG (putK kvs (.inr "part") (.str q.part)) "part" (.str q.part) := dg_same
      have gt2 : DG (putK kvs (.inr "part") (.str q.part)) "trail" (.ref lt2) := dg_ne rfl gt
      change S3 _ d sb sl lk ls lt _ Z.line Z.hist Z.ent fp (some q) at RP
      clear ho
      generalize putK kvs (.inr (Str.ofString "part")) (.str q.part) = kv2 at *
      generalize upd H1 d _ = H2 at RP f2 ⊢
      refine ⟨d, lk, kv2, Z.hist.kept, q.part, _, rfl, RP.s2.st.ob, RP.s2.kk, RP.s2.hk, by omega, fun H3 s3 => ?_⟩
      have R3 := RP.same s3
      have f3 : Fr ([d, sb, sl, lk, ls, lt] ++ fp) H1 H3 := f2.trans (Fr.same s3)
      clear RP s3 f2
      have e2 : q.note (findH Z.hist.kept q.part ((q.here : Int) - 1)) false = { q with part := q.part, trail := q.trail.dropLast ++ [(match findH Z.hist.kept q.part ((q.here : Int) - 1) with | none => ⟨q.last.at_, true, q.last.part⟩ | some j => ⟨some j, false, q.part⟩)] } := by
        unfold SrchS.note SrchS.entry
        cases findH Z.hist.kept q.part ((q.here : Int) - 1) <;> rfl
      rw [e2] at k okS
      clear e2
      obtain ⟨_, _, lt3, _, _, _, _, gt3, hT3, ef3⟩ := id R3.sr
      obtain ⟨rs3, r3, hl3, hp3, hP3⟩ := trail_ends hT3 hS.ne
      obtain rfl : lt3 = lt2 := by rw [efp] at ef3; injection ef3 with z _; exact z.symm
      have ltl : rs3.length ≤ 50002 := by rw [paired_len hp3, List.length_dropLast]; have := hS.tl; omega
      have ho := R3.s2.st.ob
      cases hfo : findH Z.hist.kept q.part ((q.here : Int) - 1) with
      | none =>
        rw [hfo] at k okS
        dsimp only at k
        rw [seek_parts.1, seek_parts.2.1, seek_parts.2.2, last_snoc, if_neg (by exact Bool.false_ne_true), if_neg (by exact Bool.false_ne_true)] at k
        walk_at "z"
        intro te hte
        generalize hG : upd H3 te _ = H4
        have s4 : Same H3 H4 := by rw [← hG]; exact Same.new (Same.refl _) hte
        have he4 : EntAt H4 te ⟨q.last.at_, true, q.last.part⟩ := by rw [← hG]; exact upd_same
        clear hG
        have R4 := R3.same s4
        have hl4 := s4 _ _ hl3
        have hp4 := Paired.mapP hp3 fun _ _ z => (show EntAt _ _ _ from s4 _ _ z)
        clear ho
        have ho := R4.s2.st.ob
        walk_at "z"
        refine z_pop (y := .ref r3) hl4 (by rw [List.map_append, List.length_append]; simp) ?_
        rw [show ((rs3 ++ [r3]).map V.ref).dropLast = rs3.map V.ref by rw [List.map_append]; exact List.dropLast_concat]
        have R5 := R4.setTrail gt3 hl4 hp4 nl2
        have f5 : Fr [lt3] H4 (upd H4 lt3 (.lst (rs3.map V.ref))) := Fr.upd Fr.refl (by simp)
        have he5 : EntAt (upd H4 lt3 (.lst (rs3.map V.ref))) te ⟨q.last.at_, true, q.last.part⟩ := he4.fr f5 (wr1_lst hl4).1.nt
        have hl5 : upd H4 lt3 (.lst (rs3.map V.ref)) lt3 = some (.lst (rs3.map V.ref)) := upd_same
        have hp5 := Paired.mapP hp4 fun _ _ z => (EntAt.fr z f5 (wr1_lst hl4).1.nt)
        have f5' : Fr ([d, sb, sl, lk, ls, lt] ++ fp) H1 (upd H4 lt3 (.lst (rs3.map V.ref))) := Fr.upd (f3.trans (Fr.same s4)) (by rw [efp]; simp)
        clear ho f5
        generalize upd H4 lt3 _ = H5 at R5 he5 hl5 hp5 f5' ⊢
        have ho := R5.s2.st.ob
        walk_at "z"
        have R6 := R5.setTrail gt3 hl5 (paired_snoc hp5 he5) nl2
        rw [List.map_append] at R6
        exact k _ sb sl kv2 [lt3] nw_refl (fun y hy => .inl (by rw [efp]; exact hy)) R6 (Fr.upd f5' (by rw [efp]; simp))
      | some j =>
        rw [hfo] at k okS
        dsimp only at k okS
        have hS2 := (okS.sr _ seek_parts.2.2).1
        rw [seek_parts.2.1, last_snoc, if_pos (by exact rfl)] at hS2
        rw [seek_parts.1, seek_parts.2.1, seek_parts.2.2, last_snoc, if_pos (by exact rfl), if_pos (by exact rfl)] at k
        walk_at "z"
        intro te hte
        generalize hG : upd H3 te _ = H4
        have s4 : Same H3 H4 := by rw [← hG]; exact Same.new (Same.refl _) hte
        have he4 : EntAt H4 te ⟨some j, false, q.part⟩ := by rw [← hG]; exact upd_same
        clear hG
        have R4 := R3.same s4
        have hl4 := s4 _ _ hl3
        have hp4 := Paired.mapP hp3 fun _ _ z => (show EntAt _ _ _ from s4 _ _ z)
        clear ho
        have ho := R4.s2.st.ob
        walk_at "z"
        refine z_pop (y := .ref r3) hl4 (by rw [List.map_append, List.length_append]; simp) ?_
        rw [show ((rs3 ++ [r3]).map V.ref).dropLast = rs3.map V.ref by rw [List.map_append]; exact List.dropLast_concat]
        have R5 := R4.setTrail gt3 hl4 hp4 nl2
        have f5 : Fr [lt3] H4 (upd H4 lt3 (.lst (rs3.map V.ref))) := Fr.upd Fr.refl (by simp)
        have he5 : EntAt (upd H4 lt3 (.lst (rs3.map V.ref))) te ⟨some j, false, q.part⟩ := he4.fr f5 (wr1_lst hl4).1.nt
        have hl5 : upd H4 lt3 (.lst (rs3.map V.ref)) lt3 = some (.lst (rs3.map V.ref)) := upd_same
        have hp5 := Paired.mapP hp4 fun _ _ z => (EntAt.fr z f5 (wr1_lst hl4).1.nt)
        have f5' : Fr ([d, sb, sl, lk, ls, lt] ++ fp) H1 (upd H4 lt3 (.lst (rs3.map V.ref))) := Fr.upd (f3.trans (Fr.same s4)) (by rw [efp]; simp)
        clear ho f5
        generalize upd H4 lt3 _ = H5 at R5 he5 hl5 hp5 f5' ⊢
        have ho := R5.s2.st.ob
        walk_at "z"
        have R6 := R5.setTrail gt3 hl5 (paired_snoc hp5 he5) nl2
        rw [List.map_append] at R6
        change S3 (upd H5 lt3 (.lst (rs3.map V.ref ++ [.ref te]))) _ _ _ _ _ _ _ _ _ _ _ _ at R6
        have f6 : Fr ([d, sb, sl, lk, ls, lt] ++ fp) H1 (upd H5 lt3 (.lst (rs3.map V.ref ++ [.ref te]))) := Fr.upd f5' (by rw [efp]; simp)
        clear ho
        generalize upd H5 lt3 _ = H6 at R6 f6 ⊢
        have hS3 : SOk { q with part := q.part, trail := q.trail.dropLast ++ [⟨some j, false, q.part⟩] } Z.hist.kept 100000 := by
          have hk0 : (showL Z.hist { q with part := q.part, trail := q.trail.dropLast ++ [⟨some j, false, q.part⟩] }).2.kept = Z.hist.kept := by
            unfold showL; split <;> rfl
          rw [hk0] at hS2
          exact HS.SOk.mono hS2 (by show (Z.seek _ false).n ≤ _; rw [HS.seek_n]; omega)
        refine ⟨d, sb, sl, lk, ls, lt, kv2, Z.line, Z.hist, Z.ent, [lt3], _, rfl, R6, hO.hi, hS3, fun H7 sb7 sl7 kv7 fp7 nw7 sub7 R7 x7 f7 => ?_⟩
        walk_at "z"
        exact k H7 sb7 sl7 kv7 fp7 (nw_back f6 efp (R6.sr.wr.2 lt3 (by simp)) nw7) (fun y hy => .inl (by rw [efp]; exact sub7 y hy)) R7 (f6.trans (f7.mono fun _ h => List.mem_append_left _ h))
    rw [if_neg ns] at k
    have hSK : key ∈ SK := by
      unfold sK at hk
      rw [Bool.or_eq_true] at hk
      exact hk.elim (fun z => absurd z sg) of_decide_eq_true
    have eK : decide (V.int (key.length : Int) = V.int 1) = false := by
      have : ∀ k ∈ SK, decide (V.int (k.length : Int) = V.int 1) = false := by decide +kernel
      exact this key hSK
    have eS : decide (V.str key = V.str "search") = false := decide_eq_false (by simpa using ns)
    have putT : ∀ (H2 : Hp) (l : Addr) (kv : List (Key × V)) (q1 : SrchS) (es : List Ent), S3 H2 d sb sl lk ls lt kv Z.line Z.hist Z.ent fp (some q1) → DG kv "trail" (.ref lt2) → TrailAt H2 l es → l ∉ [d, sb, sl, lk, ls, lt] → S3 (upd H2 d (.dK (putK kv (.inr "trail") (.ref l)))) d sb sl lk ls lt (putK kv (.inr "trail") (.ref l)) Z.line Z.hist Z.ent [l] (some { q1 with trail := es }) := fun H2 l kv q1 es R2 gt2 hT2 nl => by
      obtain ⟨rw2, rn2, lt4, a, b, c, e, g, h, ef⟩ := R2.sr
      have f : Fr [d] H2 (upd H2 d (.dK (putK kv (.inr "trail") (.ref l)))) := Fr.upd Fr.refl (by simp)
      have w : Wrs H2 [d] := .cons (.dK R2.s2.st.ob) wrs_nil
      have nd : l ≠ d := fun z => nl (by simp [z])
      exact R2.putKey (by decide) ⟨_, gt2⟩ ⟨rw2, rn2, l, dg_ne rfl a, f _ _ b (fun z => w.nt _ z _ b), c.fr f w.nt, dg_ne rfl e, dg_same, hT2.fr f w.nt (by simpa using nd), rfl⟩ (fun y hy => by rw [List.mem_singleton.mp hy]; exact nl)
    by_cases nr : key = "rub"
    · subst nr
      rw [if_pos rfl] at k
      dsimp only at k
      have okS := (hO.searched hs "rub").1
      unfold HS.searched at okS
      rw [if_neg sg, if_neg ns, if_pos rfl] at okS
      dsimp only at okS
      generalize hq2 : ({ q with part := S (tl q.part).dropLast, trail := if 1 < q.trail.length then q.trail.dropLast else q.trail } : SrchS) = q2 at k okS
      have hS2 := (okS.sr _ seek_parts.2.2).1
      rw [seek_parts.2.1, if_pos (by exact rfl)] at hS2
      rw [seek_parts.1, seek_parts.2.1, seek_parts.2.2, if_pos (by exact rfl), if_pos (by exact rfl)] at k
      have hS3 : SOk q2 Z.hist.kept 100000 := by
        have hk0 : (showL Z.hist q2).2.kept = Z.hist.kept := by unfold showL; split <;> rfl
        rw [hk0] at hS2
        exact HS.SOk.mono hS2 (by show (Z.seek _ true).n ≤ _; rw [HS.seek_n]; omega)
      have lp9 : q.part.length ≤ sizeLine := by rw [sizeLine_eq]; omega
      walk_at "z"
      have ed : cutS q.part none (some (-1)) = S (tl q.part).dropLast := by rw [cutS_eq, cutL_lastOff]
      rw [ed]
      have RP := R.putKey (x := "part") (v := .str (S (tl q.part).dropLast)) (by decide) ⟨_, gp⟩ (R.sr.putPart (x := S (tl q.part).dropLast) ho ndfp) R.nf
      have f2 : Fr ([d, sb, sl, lk, ls, lt] ++ fp) H1 (upd H1 d (.dK (putK kvs (.inr "part") (.str (S (tl q.part).dropLast))))) := Fr.upd Fr.refl (by simp)
      have gt2 : DG (putK kvs (.inr "part") (.str (S (tl q.part).dropLast))) "trail" (.ref lt2) := dg_ne rfl gt
      clear ho
      generalize putK kvs (.inr (Str.ofString "part")) (.str (S (tl q.part).dropLast)) = kv2 at *
      generalize upd H1 d _ = H2 at RP f2 ⊢
      have ho := RP.s2.st.ob
      have hlen2 := RP.s2.st.len
      obtain ⟨_, _, lt3, _, _, _, _, gt3, ⟨rs3, hl3, hp3⟩, ef3⟩ := id RP.sr
      obtain rfl : lt3 = lt2 := by rw [efp] at ef3; injection ef3 with z _; exact z.symm
      have hrl : rs3.length = q.trail.length := paired_len hp3
      have fin : ∀ (H5 : Hp) (l : Addr), (l = lt3 ∨ H1 l = none) → Fr ([d, sb, sl, lk, ls, lt] ++ fp) H1 H5 → H5 lt3 ≠ none → ∀ H7 sb7 sl7 kv7 fp7, Nw H5 [d, sb, sl, lk, ls, lt] [d, sb7, sl7, lk, ls, lt] → (∀ y ∈ fp7, y ∈ [l]) → S3 H7 d sb7 sl7 lk ls lt kv7 (showL Z.hist q2).1 (showL Z.hist q2).2 Z.ent fp7 (some q2) → Fr [d, sb, sl, lk, ls, lt] H5 H7 → Q (.bl true) H7 := fun H5 l hl f5 al H7 sb7 sl7 kv7 fp7 nw7 sub7 R7 f7 => by
        refine k H7 sb7 sl7 kv7 fp7 (nw_back f5 efp al nw7) (fun y hy => ?_) R7 (f5.trans (f7.mono fun _ h => List.mem_append_left _ h))
        rw [List.mem_singleton.mp (sub7 y hy)]
        exact hl.imp (fun e => by rw [efp, e]; simp) id
      walk_at "z"
      rw [List.length_map, hrl]
      refine ite_b (fun g1 => ?_) (fun g1 => ?_)
      · have g1' : 1 < q.trail.length := by have := of_decide_eq_true g1; omega
        walk_at "z"
        intro l4 hl4
        have ecv : cutV (rs3.map V.ref) none (some (-1)) = (rs3.dropLast).map V.ref := by
          rw [cutV_eq, cutL_lastOff, List.map_dropLast]
        rw [ecv]
        have s4 : Same H2 (upd H2 l4 (.lst ((rs3.dropLast).map V.ref))) := Same.new (Same.refl _) hl4
        have e4 : upd H2 l4 (.lst ((rs3.dropLast).map V.ref)) l4 = some (.lst ((rs3.dropLast).map V.ref)) := upd_same
        have nl4 : l4 ∉ [d, sb, sl, lk, ls, lt] := fun z => RP.s2.alive l4 z hl4
        have R4 := RP.same s4
        have p5' : Paired (EntAt H2) rs3.dropLast q.trail.dropLast := by
          obtain ⟨rs5, r5, h5, p5, _⟩ := trail_ends (H := H2) (lt2 := lt3) (es := q.trail) ⟨rs3, hl3, hp3⟩ hS.ne
          have ers : rs3 = rs5 ++ [r5] := refs_inj (by rw [hl3] at h5; injection h5 with h5; injection h5)
          rw [ers, List.dropLast_concat]
          exact p5
        have hp4 := Paired.mapP p5' fun _ _ z => (show EntAt (upd H2 l4 (.lst ((rs3.dropLast).map V.ref))) _ _ from s4 _ _ z)
        clear ho
        have hal := s4 _ _ hl3
        generalize upd H2 l4 _ = H4 at s4 e4 R4 hp4 hal ⊢
        have ho := R4.s2.st.ob
        walk_at "z"
        have R5 := putT H4 l4 kv2 _ q.trail.dropLast R4 gt3 ⟨_, e4, hp4⟩ nl4
        have eq2 : ({ ({ q with part := S (tl q.part).dropLast } : SrchS) with trail := q.trail.dropLast } : SrchS) = q2 := by rw [← hq2, if_pos g1']
        rw [eq2] at R5
        refine ⟨d, sb, sl, lk, ls, lt, _, Z.line, Z.hist, Z.ent, [l4], q2, rfl, R5, hO.hi, hS3, fun H7 sb7 sl7 kv7 fp7 nw7 sub7 R7 x7 f7 => ?_⟩
        walk_at "z"
        have ndl : lt3 ≠ d := fun z => nl2 (by simp [z])
        exact fin _ l4 ((FrN.nw f2 hl4 efp RP.sr.wr.2 RP.s2.alive)) (Fr.upd (f2.trans (Fr.same s4)) (by simp)) (by rw [upd_ne ndl, hal]; simp) H7 sb7 sl7 kv7 fp7 nw7 sub7 R7 f7
      · have g1' : ¬ 1 < q.trail.length := by have := of_decide_eq_false g1; omega
        walk_at "z"
        have R5 := putT H2 lt3 kv2 _ q.trail RP gt3 ⟨rs3, hl3, hp3⟩ nl2
        have eq2 : ({ ({ q with part := S (tl q.part).dropLast } : SrchS) with trail := q.trail } : SrchS) = q2 := by rw [← hq2, if_neg g1']
        rw [eq2] at R5
        refine ⟨d, sb, sl, lk, ls, lt, _, Z.line, Z.hist, Z.ent, [lt3], q2, rfl, R5, hO.hi, hS3, fun H7 sb7 sl7 kv7 fp7 nw7 sub7 R7 x7 f7 => ?_⟩
        walk_at "z"
        have ndl : lt3 ≠ d := fun z => nl2 (by simp [z])
        exact fin _ lt3 (.inl rfl) (Fr.upd f2 (by simp)) (by rw [upd_ne ndl, hl3]; simp) H7 sb7 sl7 kv7 fp7 nw7 sub7 R7 f7
    rw [if_neg nr] at k
    have unW : ∀ (H2 : Hp) (kv : List (Key × V)) (sb2 sl2 : Addr) (M2 : LineS) (hq2 : HistS) (fp2 : List Addr) (q2 : SrchS), S3 H2 d sb2 sl2 lk ls lt kv M2 hq2 Z.ent fp2 (some q2) → S3 (upd H2 d (.dK (putK kv (.inr "was") .non))) d sb2 sl2 lk ls lt (putK kv (.inr "was") .non) M2 hq2 Z.ent [] none := fun H2 kv sb2 sl2 M2 hq2 fp2 q2 R2 =>
      R2.putKey (by decide) R2.sm.1 ⟨dg_same, rfl⟩ (fun _ h => nomatch h)
    by_cases nc : key = "cancel"
    · subst nc
      rw [if_pos rfl] at k
      dsimp only at k
      walk_at "z"
      intro te hte
      have s2 : Same H1 (upd H1 te (.tup [.non, .bl false, .str ""])) := Same.new (Same.refl _) hte
      have he2 : EntAt (upd H1 te (.tup [.non, .bl false, .str ""])) te ⟨none, false, ""⟩ := upd_same
      have R2 := R.same s2
      clear ho
      generalize upd H1 te _ = H2 at s2 he2 R2 ⊢
      walk_at "z"
      intro l3 hl3
      have s3 : Same H2 (upd H2 l3 (.lst [.ref te])) := Same.new (Same.refl _) hl3
      have e3 : upd H2 l3 (.lst [.ref te]) l3 = some (.lst ([te].map V.ref)) := upd_same
      have he3 : EntAt (upd H2 l3 (.lst [.ref te])) te ⟨none, false, ""⟩ := s3 _ _ he2
      have nl3 : l3 ∉ [d, sb, sl, lk, ls, lt] := fun z => R2.s2.alive l3 z hl3
      have R3 := R2.same s3
      have hal3 := s3 _ _ (s2 _ _ hl2)
      generalize upd H2 l3 _ = H3 at s3 e3 he3 R3 hal3 ⊢
      have ho := R3.s2.st.ob
      walk_at "z"
      have R4 := putT H3 l3 kvs q [⟨none, false, ""⟩] R3 gt ⟨[te], e3, .cons he3 .nil⟩ nl3
      have f4 : Fr ([d, sb, sl, lk, ls, lt] ++ fp) H1 (upd H3 d (.dK (putK kvs (.inr "trail") (.ref l3)))) := Fr.upd (Fr.same (s2.trans s3)) (by simp)
      have hS3 : SOk { q with trail := [⟨none, false, ""⟩] } Z.hist.kept 100000 := by
        refine ⟨hS.was, hS.spot, by simp, by show 1 ≤ _; omega, by show q.part.length ≤ _; omega, hS.pp, fun e he => ?_⟩
        rw [List.mem_singleton.mp he]
        exact ⟨show plainS "" = true by decide +kernel, fun j z => nomatch z⟩
      have ndl : lt2 ≠ d := fun z => nl2 (by simp [z])
      have al4 : upd H3 d (.dK (putK kvs (.inr "trail") (.ref l3))) lt2 ≠ none := by rw [upd_ne ndl, hal3]; simp
      generalize putK kvs (.inr (Str.ofString "trail")) (.ref l3) = kv4 at *
      generalize upd H3 d _ = H4 at R4 f4 al4 ⊢
      refine ⟨d, sb, sl, lk, ls, lt, kv4, Z.line, Z.hist, Z.ent, [l3], _, rfl, R4, hO.hi, hS3, fun H7 sb7 sl7 kv7 fp7 nw7 sub7 R7 x7 f7 => ?_⟩
      have ho7 := R7.s2.st.ob
      have hlen7 := R7.s2.st.len
      walk_at "z"
      have R8 := unW H7 kv7 sb7 sl7 _ _ fp7 _ R7
      exact k _ sb7 sl7 _ [] (nw_back f4 efp al4 nw7) (fun _ h => nomatch h) R8 (Fr.upd (f4.trans (f7.mono fun _ h => List.mem_append_left _ h)) (by simp))
    rw [if_neg nc] at k
    dsimp only at k
    have eR : decide (V.str key = V.str "rub") = false := decide_eq_false (by simpa using nr)
    have eC : decide (V.str key = V.str "cancel") = false := decide_eq_false (by simpa using nc)
    walk_at "z"
    rw [eC]
    exact k _ sb sl _ [] nw_refl (fun _ h => nomatch h) (unW H1 kvs sb sl _ _ fp q R) (Fr.upd Fr.refl (by simp))
end

theorem sc_recased : FnScope ["text", "at", "way", "end", "start", "word"] ["text", "at", "way"] (defScope s_recased) := ⟨rfl, rfl, rfl, by decide +kernel, rfl, by decide +kernel, by decide +kernel⟩
section
variable {P : Program} {w : World} {K : PySem.W.Frag} {mg : Str → Option Value} {base : Heap}
def sp_recased (K : PySem.W.Frag) : Sp := fun vs H Q E => ∃ (x : Str) (a : Int) (way : Str), vs = [.str x, .int a, .str way] ∧ x.length < sizeLine ∧ (okText x = true → LineS.place x a → ∀ H' r, H r = none → Same H H' → H' r = some (.tup [.str (S (recL way (tl x) a.toNat)), .int (wEnd (tl x) a.toNat : Nat)]) → Q (.ref r) H') ∧ (okText x = false → ∀ H', Same H H' → E (.ref (He.ga K "BadText")) none H') ∧ (okText x = true → ¬ LineS.place x a → ∀ H', Same H H' → E (.ref (He.ga K "BadPlace")) none H')
theorem f_recased (T : Tx K mg) : Fn P w K mg base "recased" 4 ["text", "at", "way"] (sp_recased K) := by
  obtain ⟨fd, F⟩ := T.c.d.def_ 7 (d := d_recased) rfl
  refine ⟨_, fd, F.ok (CX := L2.CX P w) sc_recased (fun vs H Q E h => ?len) (fun cdv A outer s H vs Q E hr h => ?body), T.g_recased, F.kp, F.bindsN fun _ _ _ _ _ _ us hl => match us, hl with | [_, _, _], _ => rfl, FunD.bindsA F fun _ _ _ _ _ _ us hl => match us, hl with | [_, _, _], _ => rfl⟩
  case len => obtain ⟨x, a, way, rfl, hx, k1, k2, k3⟩ := h; rfl
  case body =>
    obtain ⟨x, a, way, rfl, hx, k1, k2, k3⟩ := h
    refine ⟨_, (pss_cons (ps_set (i := 3) sc_recased.nd rfl (Or.inl rfl) (pe_fn (f_word_end T) (hr.mono (by decide)) tkOf (pa_cons (pv 0) (pa_cons (pv 1) pa_nil))))
      (pss_cons (ps_set (i := 4) sc_recased.nd rfl (Or.inl rfl) (pv 1))
      (Evl.pss_cut (ps_while passOf (PW.pt (pw_and (pt_cmpR op_lt (pv 4) (pv 3) (nomark _)) (pw_and1 (pt_not (pt_val (pe_fn (f_is_letter T) (hr.mono (by decide)) tkOf (pa_cons (pv 0) (pa_cons (pv 4) pa_nil)))))))) (pss_one (ps_set (i := 4) sc_recased.nd rfl (Or.inl rfl) (pe_op op_add (pv 4) pe_int))))
      (pss_cons (ps_set (i := 5) sc_recased.nd rfl (Or.inl rfl) (pe_slice sl_str (pv 0) (po_some (pv 4)) (po_some (pv 3))))
      (Evl.pss_cut (ps_if (pt_cmpR op_eq (pv 2) pe_str (nomark _)) (pss_one (ps_set (i := 5) sc_recased.nd rfl (Or.inl rfl) (pe_bm0K (K := K) rfl PySem.F.plainAttrs_str PySem.F.slot_str_upper PySem.F.type_str_upper mt_upperN (pv 5)))) (pss_one (ps_if (pt_cmpR op_eq (pv 2) pe_str (nomark _)) (pss_one (ps_set (i := 5) sc_recased.nd rfl (Or.inl rfl) (pe_bm0K (K := K) rfl PySem.F.plainAttrs_str PySem.F.slot_str_lower PySem.F.type_str_lower mt_lowerN (pv 5)))) (pss_one (ps_set (i := 5) sc_recased.nd rfl (Or.inl rfl) (pe_op op_addS (pe_bm0K (K := K) rfl PySem.F.plainAttrs_str PySem.F.slot_str_upper PySem.F.type_str_upper mt_upperN (pe_slice sl_str (pv 5) po_none (po_some pe_int))) (pe_bm0K (K := K) rfl PySem.F.plainAttrs_str PySem.F.slot_str_lower PySem.F.type_str_lower mt_lowerN (pe_slice sl_str (pv 5) (po_some pe_int) po_none))))))))
      (pss_one (ps_ret (pe_tup (pa_cons (pe_op op_addS (pe_op op_addS (pe_slice sl_str (pv 0) po_none (po_some (pv 4))) (pv 5)) (pe_slice sl_str (pv 0) (po_some (pv 3)) po_none)) (pa_cons (pv 3) pa_nil)))))))))), ?_⟩
    walk_at "z"
    refine ⟨x, a, rfl, hx, fun ok pl H1 s1 => ?_, fun bad H1 s1 => k2 bad H1 s1, fun ok bad H1 s1 => k3 ok bad H1 s1⟩
    have kk := k1 ok pl
    clear k1 k2 k3
    have e := len_tl x
    have hl := okText_len ok
    obtain ⟨n, rfl⟩ := Int.eq_ofNat_of_zero_le pl.1
    have hn : n ≤ (tl x).length := by have := pl.2; omega
    clear pl
    rw [show ((n : Int)).toNat = n by omega] at kk ⊢
    obtain ⟨b1, b2⟩ := wBeg_le hn
    obtain ⟨e1, e2⟩ := wEnd_le hn
    walk_at "z"
    refine z_cut (fun σ' H' => σ' = [some (.str x), some (.int (n : Nat)), some (.str way), some (.int (wEnd (tl x) n : Nat)), some (.int (wBeg (tl x) n : Nat)), none] ∧ H' = H1) ?_ ?_
    · refine z_while (fun c σ' H' => ∃ m : Nat, σ' = [some (.str x), some (.int (n : Nat)), some (.str way), some (.int (wEnd (tl x) n : Nat)), some (.int (m : Nat)), none] ∧ H' = H1 ∧ m ≤ wBeg (tl x) n ∧ wBeg (tl x) m = wBeg (tl x) n ∧ c = (tl x).length - m) ((tl x).length - n) ⟨n, rfl, rfl, b1, rfl, rfl⟩ ?_
      rintro c σ' H' ⟨m, rfl, rfl, hm, hb, hc⟩
      walk_at "z"
      refine ite_b (fun h1 => ?_) (fun h1 => ?_)
      · have h1' := of_decide_eq_true h1
        walk_at "z"
        refine ⟨x, _, rfl, ok, ?_⟩
        walk_at "z"
        refine ite_b (fun h2 => ?_) (fun h2 => ?_)
        · have h2' : letAt (tl x) (m : Nat) = false := by simpa using h2
          refine z_turn ?_
          walk_at "z"
          have hlt : m < (tl x).length := by omega
          have hs := wBeg_step hlt h2'
          have h3 := (wBeg_le (a := m + 1) (l := tl x) hlt).1
          exact ⟨(tl x).length - (m + 1), by omega, m + 1, by rw [show ((m : Int) + 1) = ((m + 1 : Nat) : Int) by omega]; rfl, rfl, by omega, by rw [hs]; exact hb, rfl⟩
        · have h2' : letAt (tl x) (m : Nat) = true := by simpa using h2
          have := wBeg_let h2'
          rw [← hb, this]
          exact ⟨rfl, rfl⟩
      · have h1' := of_decide_eq_false h1
        walk_at "z"
        have : m = wBeg (tl x) n := by omega
        rw [this]
        exact ⟨rfl, rfl⟩
    rintro σ' H' ⟨rfl, rfl⟩
    have hpl : plainS x = true := plain_ok ok
    have ew : cutS x (some ((wBeg (tl x) n : Nat) : Int)) (some ((wEnd (tl x) n : Nat) : Int)) = S (((tl x).drop (wBeg (tl x) n)).take (wEnd (tl x) n - wBeg (tl x) n)) := by
      rw [cutS_eq, cutL_mid _ (by omega) (by omega)]
      congr 1
    have er : recL way (tl x) n = (tl x).take (wBeg (tl x) n) ++ cas way (((tl x).drop (wBeg (tl x) n)).take (wEnd (tl x) n - wBeg (tl x) n)) ++ (tl x).drop (wEnd (tl x) n) := rfl
    rw [er] at kk
    walk_at "z"
    rw [ew]
    have lw : (((tl x).drop (wBeg (tl x) n)).take (wEnd (tl x) n - wBeg (tl x) n)).length = wEnd (tl x) n - wBeg (tl x) n := by rw [List.length_take, List.length_drop]; omega
    have plw : ∀ c ∈ ((tl x).drop (wBeg (tl x) n)).take (wEnd (tl x) n - wBeg (tl x) n), decide (c < 128) = true := fun c hc => List.all_eq_true.mp hpl c (List.mem_of_mem_drop (List.mem_of_mem_take hc))
    generalize ((tl x).drop (wBeg (tl x) n)).take (wEnd (tl x) n - wBeg (tl x) n) = wd at *
    generalize wBeg (tl x) n = s0 at *
    generalize wEnd (tl x) n = e0 at *
    refine z_cut (fun σ' H'' => σ' = [some (.str x), some (.int (n : Nat)), some (.str way), some (.int (e0 : Nat)), some (.int (s0 : Nat)), some (.str (S (cas way wd)))] ∧ H'' = H') ?_ ?_
    · have pw : plainS (S wd) = true := List.all_eq_true.mpr plw
      walk_at "z"
      refine ite_b (fun h1 => ?_) (fun h1 => ?_)
      · have h1' : way = "great" := by simpa using h1
        walk_at "z"
        refine z_upper (by rw [len_S]; omega) ?_
        walk_at "z"
        have : Txt.upper (S wd) = S (cas way wd) := by apply str_ext; rw [tl_upper pw, tl_S, tl_S]; unfold cas; rw [if_pos h1']
        rw [this]
        exact ⟨rfl, rfl⟩
      · have h1' : ¬ way = "great" := by simpa using h1
        walk_at "z"
        refine ite_b (fun h2 => ?_) (fun h2 => ?_)
        · have h2' : way = "small" := by simpa using h2
          walk_at "z"
          refine z_lower (by rw [len_S]; omega) ?_
          walk_at "z"
          have : Txt.lower (S wd) = S (cas way wd) := by apply str_ext; rw [tl_lower pw, tl_S, tl_S]; unfold cas; rw [if_neg h1', if_pos h2']
          rw [this]
          exact ⟨rfl, rfl⟩
        · have h2' : ¬ way = "small" := by simpa using h2
          have lS : (S wd).length ≤ sizeLine := by rw [len_S, sizeLine_eq]; omega
          walk_at "z"
          have c1 : cutS (S wd) none (some 1) = S (wd.take 1) := by rw [cutS_eq, cutL_to _ (by decide)]; rfl
          have c2 : cutS (S wd) (some 1) none = S (wd.drop 1) := by rw [cutS_eq, cutL_from _ (by decide)]; rfl
          have p1 : plainS (S (wd.take 1)) = true := List.all_eq_true.mpr fun c hc => plw c (List.mem_of_mem_take hc)
          have p2 : plainS (S (wd.drop 1)) = true := List.all_eq_true.mpr fun c hc => plw c (List.mem_of_mem_drop hc)
          have l1 : (wd.take 1).length ≤ 1 := by rw [List.length_take]; omega
          have l2 : (wd.drop 1).length ≤ 400 := by rw [List.length_drop]; omega
          rw [c1]
          refine z_upper (by rw [len_S]; omega) ?_
          walk_at "z"
          rw [c2]
          refine z_lower (by rw [len_S]; omega) ?_
          have u1 : Txt.upper (S (wd.take 1)) = S ((wd.take 1).map upc) := by apply str_ext; rw [tl_upper p1]; rfl
          have u2 : Txt.lower (S (wd.drop 1)) = S ((wd.drop 1).map loc) := by apply str_ext; rw [tl_lower p2]; rfl
          rw [u1, u2]
          refine z_addS (by rw [len_S, len_S, List.length_map, List.length_map, sizeLine_eq]; omega) ?_
          walk_at "z"
          have : S ((wd.take 1).map upc) ++ S ((wd.drop 1).map loc) = S (cas way wd) := by apply str_ext; rw [tl_app, tl_S, tl_S, tl_S]; unfold cas; rw [if_neg h1', if_neg h2']
          rw [this]
          exact ⟨rfl, rfl⟩
    rintro σ' H'' ⟨rfl, rfl⟩
    have c1 : cutS x none (some ((s0 : Nat) : Int)) = S ((tl x).take s0) := by rw [cutS_eq, cutL_to _ (by omega)]; rfl
    have c2 : cutS x (some ((e0 : Nat) : Int)) none = S ((tl x).drop e0) := by rw [cutS_eq, cutL_from _ (by omega)]; rfl
    have lc : (S (cas way wd)).length = e0 - s0 := by rw [len_S, len_cas, lw]
    have l1 : (S ((tl x).take s0)).length ≤ 400 := by rw [len_S, List.length_take]; omega
    have l2 : (S ((tl x).drop e0)).length ≤ 400 := by rw [len_S, List.length_drop]; omega
    walk_at "z"
    rw [c1]
    walk_at "z"
    rw [c2]
    walk_at "z"
    intro r hr
    refine kk _ r (fresh_of s1 hr) (Same.new s1 hr) ?_
    rw [upd_same]
    congr 5
    apply str_ext
    rw [tl_app, tl_app]; rfl
end

theorem sc_Filler_fitting : FnScope ["self", "text", "at", "part", "word"] ["self", "text", "at"] (defScope s_Filler_fitting) := ⟨rfl, rfl, rfl, by decide +kernel, rfl, by decide +kernel, by decide +kernel⟩
section
variable {P : Program} {w : World} {K : PySem.W.Frag} {mg : Str → Option Value} {base : Heap}
theorem cut_part {x : Str} {n : Nat} (h : n ≤ (tl x).length) : cutS x (some ((fStart (tl x) n : Nat) : Int)) (some ((n : Nat) : Int)) = fPart x n := by
  rw [cutS_eq, cutL_mid _ (by omega) (by omega)]
  unfold fPart
  rw [show ((n : Int)).toNat - ((fStart (tl x) n : Nat) : Int).toNat = n - fStart (tl x) n by omega, show ((fStart (tl x) n : Nat) : Int).toNat = fStart (tl x) n by omega]
def sp_Filler_fitting (K : PySem.W.Frag) : Sp := fun vs H Q E => ∃ (p l : Addr) (ws : List Str) (x : Str) (a : Int), vs = [.ref p, .str x, .int a] ∧ FillAt K H p l ws ∧ ws.length < 1000 ∧ x.length < sizeLine ∧ (okText x = true → LineS.place x a → ∀ H' r, H r = none → Same H H' → H' r = some (.lst ((fFit ws (fPart x a.toNat)).map V.str)) → Q (.ref r) H') ∧ (okText x = false → ∀ H', Same H H' → E (.ref (He.ga K "BadText")) none H') ∧ (okText x = true → ¬ LineS.place x a → ∀ H', Same H H' → E (.ref (He.ga K "BadPlace")) none H')
theorem m_Filler_fitting (T : Tx K mg) : Mt P w K mg base (He.ga K "Filler") "fitting" 4 ["self", "text", "at"] (sp_Filler_fitting K) := by
  obtain ⟨fd, F⟩ := T.c.d.def_ 10 (d := d_Filler_fitting) rfl
  refine ⟨_, fd, F.ok (CX := L2.CX P w) sc_Filler_fitting (fun vs H Q E h => ?len) (fun cdv A outer s H vs Q E hr h => ?body), T.me_Filler_fitting, T.cl_Filler, F.bindsN fun _ _ _ _ _ _ us hl => match us, hl with | [_, _, _], _ => rfl⟩
  case len => obtain ⟨p, l, ws, x, a, rfl, R, hws, hx, k1, k2, k3⟩ := h; rfl
  case body =>
    obtain ⟨p, l, ws, x, a, rfl, R, hws, hx, k1, k2, k3⟩ := h
    refine ⟨_, (pss_cons (ps_set (i := 3) sc_Filler_fitting.nd rfl (Or.inr rfl) (pe_slice sl_str (pv 1) (po_some (pe_mt (pv 0) (m_Filler_start T) (hr.mono (by decide)) tkOf (pa_cons (pv 1) (pa_cons (pv 2) pa_nil)))) (po_some (pv 2))))
      (pss_one (ps_ret (pe_lc (own := [("word", 4)]) rfl sc_Filler_fitting.nd (pi_listK (K := K) rfl (pe_get T.cl_Filler T.na_Filler_words (pv 0))) (blkOk_by (N := ["self", "text", "at", "part", "word"]) (sc := defScope s_Filler_fitting) (by decide +kernel)) (fun _ _ _ _ _ => (pg_name (i := 4) sc_Filler_fitting.nd rfl (Or.inl rfl))) (fun _ _ _ _ _ => (pts_one (pt_val (pe_bmK (K := K) rfl PySem.F.plainAttrs_str PySem.F.slot_str_startswith PySem.F.type_str_startswith mt_startsN (pv 4) (pa_cons (pv 3) pa_nil))))) (fun _ _ _ _ _ => (pv 4)))))), ?_⟩
    obtain ⟨dx, ho⟩ := R.ob
    walk_at "z"
    refine ⟨p, x, a, rfl, hx, fun ok pl H1 s1 => ?_, k2, k3⟩
    have kk := k1 ok pl
    clear k1 k2 k3
    have e := len_tl x
    obtain ⟨n, rfl⟩ := Int.eq_ofNat_of_zero_le pl.1
    have hn : n ≤ (tl x).length := by have := pl.2; omega
    have hl := okText_len ok
    rw [show ((n : Int)).toNat = n by omega] at kk ⊢
    obtain ⟨⟨dx, ho⟩, hls⟩ := R.same s1
    walk_at "z"
    rw [cut_part hn]
    walk_at "z"
    intro D hD
    refine lc_lstP (xs := ws.map V.str) (fun v => match v with | .str w => Txt.startswith w (fPart x n) | _ => false) id (SqL.of hls) (by rw [List.length_map]; omega) (by intro v; rfl) hD ?_ ?_ ?_
    · intro v hv H2 Q2 s2 q
      obtain ⟨w, _, rfl⟩ := mem_strs hv
      walk_at "z"
      exact q
    · intro v hv H2 Q2 _ s2 q
      walk_at "z"
      exact q
    refine kk _ D (fresh_of s1 hD) (Same.new s1 hD) ?_
    rw [upd_same]
    unfold fFit
    rw [List.filter_map, List.map_map]
    rfl
end

theorem sc_Line_change : FnScope ["self", "first", "last", "new", "caret"] ["self", "first", "last", "new", "caret"] (defScope s_Line_change) := ⟨rfl, rfl, rfl, by decide +kernel, rfl, by decide +kernel, by decide +kernel⟩
section
variable {P : Program} {w : World} {K : PySem.W.Frag} {mg : Str → Option Value} {base : Heap}
def sp_Line_change (K : PySem.W.Frag) : Sp := fun vs H Q E => ∃ (p lb ll : Addr) (L : LineS) (f l c : Int) (new : Str), vs = [.ref p, .int f, .int l, .str new, .int c] ∧ LineAt K H p lb ll L ∧ L.now.length ≤ 400 ∧ new.length < sizeLine ∧ L.before.length ≤ 100000 ∧
  (chk L f l new = none → ∀ H' ll', H ll' = none → LineAt K H' p lb ll' (L.change f l new c) → Fr [p, lb] H H' → Q .non H') ∧ (∀ e, chk L f l new = some e → ∀ H', Same H H' → E (.ref (He.ga K e)) none H')
theorem m_Line_change (T : Tx K mg) : Mt P w K mg base (He.ga K "Line") "change" 4 ["self", "first", "last", "new", "caret"] (sp_Line_change K) := by
  obtain ⟨fd, F⟩ := T.c.d.def_ 29 (d := d_Line_change) rfl
  refine ⟨_, fd, F.ok (CX := L2.CX P w) sc_Line_change (fun vs H Q E h => ?len) (fun cdv A outer s H vs Q E hr h => ?body), T.me_Line_change, T.cl_Line, F.bindsN fun _ _ _ _ _ _ us hl => match us, hl with | [_, _, _, _, _], _ => rfl⟩
  case len => obtain ⟨p, lb, ll, L, f, l, c, new, rfl, R, hl, hn, hbl, k1, k2⟩ := h; rfl
  case body =>
    obtain ⟨p, lb, ll, L, f, l, c, new, rfl, R, hl, hn, hbl, k1, k2⟩ := h
    refine ⟨_, (pss_cons (ps_expr (pe_mt (pv 0) (m_Line_check T) (hr.mono (by decide)) tkOf (pa_cons (pv 1) (pa_cons (pv 2) (pa_cons (pv 3) pa_nil)))))
      (pss_cons (ps_expr (pe_bmK (K := K) rfl PySem.F.plainAttrs_list PySem.F.slot_list_append PySem.F.type_list_append mt_append (pe_get T.cl_Line T.na_Line_before (pv 0)) (pa_cons (pe_mt0 (pv 0) (m_Line_picture T) (hr.mono (by decide)) tkOf) pa_nil)))
      (pss_cons (ps_put T.cl_Line T.na_Line_later (pv 0) (pe_lst pa_nil))
      (pss_cons (ps_put T.cl_Line T.na_Line_run (pv 0) pe_int)
      (pss_one (ps_expr (pe_mt (pv 0) (m_Line_replace T) (hr.mono (by decide)) tkOf (pa_cons (pv 1) (pa_cons (pv 2) (pa_cons (pv 3) (pa_cons (pv 4) pa_nil))))))))))), ?_⟩
    obtain ⟨⟨dx, ho⟩, _, _, _⟩ := id R
    walk_at "z"
    refine ⟨p, lb, ll, L, f, l, new, rfl, R, hl, hn, fun ok H1 s1 => ?_, k2⟩
    obtain ⟨⟨dx, ho⟩, hb, hll, hne⟩ := id (R.same s1)
    obtain ⟨n1, n2⟩ := (R.same s1).nes
    obtain ⟨rs, hrs, hpr⟩ := id hb
    obtain ⟨rs2, hrs2, hpr2⟩ := id hll
    have hrl := paired_len hpr
    walk_at "z"
    refine ⟨p, lb, ll, L, rfl, R.same s1, fun r hr => ?_⟩
    have nrb := (ne_of_none hrs hr).symm
    have nrp := (ne_of_none ho hr).symm
    walk_at "z"
    have B2 : PicsAt (upd (upd H1 r (.tup [.str L.now, .int L.caret, .int L.mark])) lb (.lst (rs.map V.ref ++ [.ref r]))) lb (L.before ++ [L.pic]) := pics_push (P := L.pic) hb hr rs hrs
    have f2 : Fr [lb] H1 (upd (upd H1 r (.tup [.str L.now, .int L.caret, .int L.mark])) lb (.lst (rs.map V.ref ++ [.ref r]))) := Fr.upd (Fr.new Fr.refl hr) (by simp)
    have ho2 := f2 _ _ ho (not_mem1 n1)
    have hrs2' := f2 _ _ hrs2 (not_mem1 hne.symm)
    have hb2 : (upd (upd H1 r (.tup [.str L.now, .int L.caret, .int L.mark])) lb (.lst (rs.map V.ref ++ [.ref r]))) lb = some (.lst (rs.map V.ref ++ [.ref r])) := upd_same
    have e2 : ∀ b, (upd (upd H1 r (.tup [.str L.now, .int L.caret, .int L.mark])) lb (.lst (rs.map V.ref ++ [.ref r]))) b = none → H1 b = none := fun b h => (un_fresh (un_fresh h).2).2
    generalize (upd (upd H1 r (HO.tup [V.str L.now, V.int L.caret, V.int L.mark])) lb (HO.lst (rs.map V.ref ++ [V.ref r]))) = H2 at *
    intro l2 hl2
    have n3 : p ≠ l2 := ne_of_none ho2 hl2
    have n4 : lb ≠ l2 := ne_of_none hb2 hl2
    have hl0 : H l2 = none := fresh_of s1 (e2 _ hl2)
    walk_at "z"
    have f3 : Fr [p] H2 (upd (upd (upd H2 l2 (.lst [])) p (.ins (He.ga K "Line") dx (putF "later" (.ref l2) (lineF L.now L.caret L.mark lb ll L.run)))) p (.ins (He.ga K "Line") dx (putF "run" (.int 0) (putF "later" (.ref l2) (lineF L.now L.caret L.mark lb ll L.run))))) := by walk_at "fr"
    have L3 : LineAt K (upd (upd (upd H2 l2 (.lst [])) p (.ins (He.ga K "Line") dx (putF "later" (.ref l2) (lineF L.now L.caret L.mark lb ll L.run)))) p (.ins (He.ga K "Line") dx (putF "run" (.int 0) (putF "later" (.ref l2) (lineF L.now L.caret L.mark lb ll L.run))))) p lb l2 { L with before := L.before ++ [L.pic], later := [], run := 0 } :=
      ⟨⟨dx, by walk_at "h"⟩, B2.fr f3 (.cons (nt_ins ho2) nt_nil) (not_mem1 n1.symm), ⟨[], by walk_at "h", .nil⟩, n4⟩
    obtain ⟨hf, hl1⟩ : 0 ≤ f ∧ 0 ≤ l := by
      unfold chk at ok
      split at ok
      · rename_i a; split at ok
        · rename_i b; exact ⟨a.1, b.1⟩
        · cases ok
      · cases ok
    have hnl : new.length ≤ 1000 := by
      unfold chk at ok
      split at ok
      · split at ok
        · split at ok
          · rename_i a
            unfold okText at a
            rw [Bool.and_eq_true] at a
            have := of_decide_eq_true a.1
            omega
          · cases ok
        · cases ok
      · cases ok
    refine ⟨p, lb, l2, _, f, l, c, new, rfl, L3, hl, hnl, hf, hl1, fun H4 R4 f4 => ?_⟩
    exact k1 ok H4 l2 hl0 R4 (((Fr.same s1).trans (f2.mono (by simp))).trans ((f3.mono (by simp)).trans (f4.mono (by simp))))
end

theorem sc_Line_write : FnScope ["self", "sign"] ["self", "sign"] (defScope s_Line_write) := ⟨rfl, rfl, rfl, by decide +kernel, rfl, by decide +kernel, by decide +kernel⟩
section
variable {P : Program} {w : World} {K : PySem.W.Frag} {mg : Str → Option Value} {base : Heap}
def sp_Line_write (K : PySem.W.Frag) : Sp := fun vs H Q E => ∃ (p lb ll : Addr) (L : LineS) (x : Str), vs = [.ref p, .str x] ∧ LineAt K H p lb ll L ∧ L.now.length ≤ 400 ∧ x.length < sizeLine ∧ L.before.length ≤ 100000 ∧
  (chk L L.caret L.caret x = none → ∀ H' ll', H ll' = none → LineAt K H' p lb ll' (L.write x) → Fr [p, lb] H H' → Q .non H') ∧ (∀ e, chk L L.caret L.caret x = some e → ∀ H', Same H H' → E (.ref (He.ga K e)) none H')
theorem m_Line_write (T : Tx K mg) : Mt P w K mg base (He.ga K "Line") "write" 4 ["self", "sign"] (sp_Line_write K) := by
  obtain ⟨fd, F⟩ := T.c.d.def_ 32 (d := d_Line_write) rfl
  refine ⟨_, fd, F.ok (CX := L2.CX P w) sc_Line_write (fun vs H Q E h => ?len) (fun cdv A outer s H vs Q E hr h => ?body), T.me_Line_write, T.cl_Line, F.bindsN fun _ _ _ _ _ _ us hl => match us, hl with | [_, _], _ => rfl⟩
  case len => obtain ⟨p, lb, ll, L, x, rfl, R, hl, hn, hbl, k1, k2⟩ := h; rfl
  case body =>
    obtain ⟨p, lb, ll, L, x, rfl, R, hl, hn, hbl, k1, k2⟩ := h
    refine ⟨_, (pss_cons (ps_expr (pe_mt (pv 0) (m_Line_check T) (hr.mono (by decide)) tkOf (pa_cons (pe_get T.cl_Line T.na_Line_caret (pv 0)) (pa_cons (pe_get T.cl_Line T.na_Line_caret (pv 0)) (pa_cons (pv 1) pa_nil)))))
      (Evl.pss_cut (ps_if (PW.pt (pw_or (pt_cmpR op_eq (pe_get T.cl_Line T.na_Line_run (pv 0)) pe_int (nomark _)) (pw_or1 (pt_cmpR op_eq (pe_get T.cl_Line T.na_Line_run (pv 0)) (pe_gcon T.c_MOST_RUN) (nomark _))))) (pss_cons (ps_expr (pe_bmK (K := K) rfl PySem.F.plainAttrs_list PySem.F.slot_list_append PySem.F.type_list_append mt_append (pe_get T.cl_Line T.na_Line_before (pv 0)) (pa_cons (pe_mt0 (pv 0) (m_Line_picture T) (hr.mono (by decide)) tkOf) pa_nil)))
      (pss_one (ps_put T.cl_Line T.na_Line_run (pv 0) pe_int))) pss_nil)
      (pss_cons (ps_put T.cl_Line T.na_Line_later (pv 0) (pe_lst pa_nil))
      (pss_cons (ps_put T.cl_Line T.na_Line_run (pv 0) (pe_op op_add (pe_get T.cl_Line T.na_Line_run (pv 0)) pe_int))
      (pss_one (ps_expr (pe_mt (pv 0) (m_Line_replace T) (hr.mono (by decide)) tkOf (pa_cons (pe_get T.cl_Line T.na_Line_caret (pv 0)) (pa_cons (pe_get T.cl_Line T.na_Line_caret (pv 0)) (pa_cons (pv 1) (pa_cons (pe_op op_add (pe_get T.cl_Line T.na_Line_caret (pv 0)) (pe_callB (call_lnK (K := K) rfl) rfl T.n_len boot_len (pa_cons (pv 1) pa_nil))) pa_nil))))))))))), ?_⟩
    obtain ⟨⟨dx, ho⟩, _, _, _⟩ := id R
    walk_at "z"
    refine ⟨p, lb, ll, L, L.caret, L.caret, x, rfl, R, hl, hn, fun ok H1 s1 => ?_, k2⟩
    obtain ⟨⟨dx, ho⟩, hb, hll, hne⟩ := id (R.same s1)
    obtain ⟨n1, n2⟩ := (R.same s1).nes
    obtain ⟨rs, hrs, hpr⟩ := id hb
    have hrl := paired_len hpr
    have hf : 0 ≤ L.caret := by
      unfold chk at ok
      split at ok
      · rename_i a; exact a.1
      · cases ok
    have hnl : x.length ≤ 400 := by
      have hk : okText x = true := by
        cases q : okText x with
        | true => rfl
        | false =>
          exfalso
          have h0 : chk L L.caret L.caret x ≠ none := by
            simp only [chk, q, Bool.false_eq_true, if_false]
            split <;> simp
          exact h0 ok
      unfold okText at hk
      rw [Bool.and_eq_true] at hk
      exact of_decide_eq_true hk.1
    refine z_cut (fun σ' H' => σ' = L2.start ["self", "sign"] [.ref p, .str x] ∧ ∃ L1 : LineS, LineAt K H' p lb ll L1 ∧ Fr [p, lb] H H' ∧ { L1 with later := [], run := L1.run + 1 }.replace L1.caret L1.caret x (L1.caret + x.length) = L.write x ∧ L1.now = L.now ∧ L1.caret = L.caret) ?_ ?_
    · have one : L.run = 0 ∨ L.run = 20 → tSeq (tDrop (tBM K "list" rAppend (tGet (He.ga K "Line") (tVar 0) "before") (tCons (tMt (He.ga K "Line") "picture" (sp_Line_picture K) (WE fun cls d _ H => E cls d H) (tVar 0) tNil) tNil))) (tPut (He.ga K "Line") (tVar 0) (tC (.int 0)) "run") { nx := fun σ' H' => σ' = L2.start ["self", "sign"] [.ref p, .str x] ∧ ∃ L1 : LineS, LineAt K H' p lb ll L1 ∧ Fr [p, lb] H H' ∧ { L1 with later := [], run := L1.run + 1 }.replace L1.caret L1.caret x (L1.caret + x.length) = L.write x ∧ L1.now = L.now ∧ L1.caret = L.caret, rt := Q } (L2.start ["self", "sign"] [.ref p, .str x]) H1 := by
        intro hrun
        walk_at "z"
        refine ⟨p, lb, ll, L, rfl, R.same s1, fun r hr => ?_⟩
        walk_at "z"
        have B2 : PicsAt (upd (upd H1 r (.tup [.str L.now, .int L.caret, .int L.mark])) lb (.lst (rs.map V.ref ++ [.ref r]))) lb (L.before ++ [L.pic]) := pics_push (P := L.pic) hb hr rs hrs
        have f2 : Fr [lb] H1 (upd (upd H1 r (.tup [.str L.now, .int L.caret, .int L.mark])) lb (.lst (rs.map V.ref ++ [.ref r]))) := Fr.upd (Fr.new Fr.refl hr) (by simp)
        have nrb := (ne_of_none hrs hr).symm
        have ho2 := f2 _ _ ho (not_mem1 n1)
        have hll2 := hll.fr f2 (.cons (nt_lst hrs) nt_nil) (not_mem1 hne.symm)
        generalize (upd (upd H1 r (HO.tup [V.str L.now, V.int L.caret, V.int L.mark])) lb (HO.lst (rs.map V.ref ++ [V.ref r]))) = H2 at *
        walk_at "z"
        have f3 : Fr [p] H2 (upd H2 p (.ins (He.ga K "Line") dx (putF "run" (.int 0) (lineF L.now L.caret L.mark lb ll L.run)))) := by walk_at "fr"
        refine ⟨rfl, { L with before := L.before ++ [L.pic], run := 0 }, ⟨⟨dx, by walk_at "h"⟩, B2.fr f3 (.cons (nt_ins ho2) nt_nil) (not_mem1 n1.symm), hll2.fr f3 (.cons (nt_ins ho2) nt_nil) (not_mem1 n2.symm), hne⟩, ((Fr.same s1).trans (f2.mono (by simp))).trans (f3.mono (by simp)), ?_, rfl, rfl⟩
        unfold LineS.write
        rw [if_pos hrun]; rfl
      walk_at "z"
      refine ite_b (fun h1 => ?_) (fun h1 => ?_)
      · have h1' : L.run = 0 := by simpa using h1
        exact one (.inl h1')
      · have h1' : ¬ L.run = 0 := by simpa using h1
        walk_at "z"
        refine ite_b (fun h2 => ?_) (fun h2 => ?_)
        · have h2' : L.run = 20 := by simpa using h2
          exact one (.inr h2')
        · have h2' : ¬ L.run = 20 := by simpa using h2
          walk_at "z"
          refine ⟨rfl, L, R.same s1, Fr.same s1, ?_, rfl, rfl⟩
          unfold LineS.write
          rw [if_neg (by rintro (z | z); exact h1' z; exact h2' z)]
    rintro σ H2 ⟨rfl, L1, R1, fr1, eW, e1, e2⟩
    obtain ⟨⟨dx, ho⟩, hb, hll, hne⟩ := id R1
    obtain ⟨n1, n2⟩ := R1.nes
    obtain ⟨rs, hrs, hpr⟩ := id hb
    walk_at "z"
    intro l2 hl2
    have n3 : p ≠ l2 := ne_of_none ho hl2
    have n4 : lb ≠ l2 := ne_of_none hrs hl2
    walk_at "z"
    have f3 : Fr [p] H2 (upd (upd (upd H2 l2 (.lst [])) p (.ins (He.ga K "Line") dx (putF "later" (.ref l2) (lineF L1.now L1.caret L1.mark lb ll L1.run)))) p (.ins (He.ga K "Line") dx (putF "run" (.int (L1.run + 1)) (putF "later" (.ref l2) (lineF L1.now L1.caret L1.mark lb ll L1.run))))) := by walk_at "fr"
    have L3 : LineAt K (upd (upd (upd H2 l2 (.lst [])) p (.ins (He.ga K "Line") dx (putF "later" (.ref l2) (lineF L1.now L1.caret L1.mark lb ll L1.run)))) p (.ins (He.ga K "Line") dx (putF "run" (.int (L1.run + 1)) (putF "later" (.ref l2) (lineF L1.now L1.caret L1.mark lb ll L1.run))))) p lb l2 { L1 with later := [], run := L1.run + 1 } :=
      ⟨⟨dx, by walk_at "h"⟩, hb.fr f3 (.cons (nt_ins ho) nt_nil) (not_mem1 n1.symm), ⟨[], by walk_at "h", .nil⟩, n4⟩
    have hl0 : H l2 = none := by
      cases q : H l2 with
      | none => rfl
      | some o => rw [fr1 l2 o q (not_mem2 n3.symm n4.symm)] at hl2; cases hl2
    refine ⟨p, lb, l2, _, L1.caret, L1.caret, L1.caret + x.length, x, rfl, L3, by rw [e1]; exact hl, by omega, by rw [e2]; exact hf, by rw [e2]; exact hf, fun H4 R4 f4 => ?_⟩
    rw [eW] at R4
    exact k1 ok H4 l2 hl0 R4 (fr1.trans ((f3.mono (by simp)).trans (f4.mono (by simp))))
end

theorem sc_Ring_join : FnScope ["self", "text", "is_ahead"] ["self", "text", "is_ahead"] (defScope s_Ring_join) := ⟨rfl, rfl, rfl, by decide +kernel, rfl, by decide +kernel, by decide +kernel⟩
section
variable {P : Program} {w : World} {K : PySem.W.Frag} {mg : Str → Option Value} {base : Heap}
def sp_Ring_join (K : PySem.W.Frag) : Sp := fun vs H Q E => ∃ (p l : Addr) (m s : Int) (ts : List Str) (x : Str) (ah : Bool), vs = [.ref p, .str x, .bl ah] ∧ RingAt K H p l m ts s ∧ x.length < sizeLine ∧ ts.length ≤ 1000 ∧ 0 ≤ m ∧ (∀ t ∈ ts, t.length ≤ 1000000) ∧
  (okText x = true → ∀ H' l', (l' = l ∨ H l' = none) → RingAt K H' p l' m (joinR m x ah ts) 0 → Fr [p, l] H H' → Q .non H') ∧
  (okText x = false → ∀ H', Same H H' → E (.ref (He.ga K "BadText")) none H')
theorem m_Ring_join (T : Tx K mg) : Mt P w K mg base (He.ga K "Ring") "join" 4 ["self", "text", "is_ahead"] (sp_Ring_join K) := by
  obtain ⟨fd, F⟩ := T.c.d.def_ 39 (d := d_Ring_join) rfl
  refine ⟨_, fd, F.ok (CX := L2.CX P w) sc_Ring_join (fun vs H Q E h => ?len) (fun cdv A outer s H vs Q E hr h => ?body), T.me_Ring_join, T.cl_Ring, F.bindsN fun _ _ _ _ _ _ us hl => match us, hl with | [_, _, _], _ => rfl⟩
  case len => obtain ⟨p, l, m, s0, ts, x, ah, rfl, R, hx, hn, hm, hb, k1, k2⟩ := h; rfl
  case body =>
    obtain ⟨p, l, m, s0, ts, x, ah, rfl, R, hx, hn, hm, hb, k1, k2⟩ := h
    refine ⟨_, (pss_cons (ps_expr (pe_fn (f_look_text T) (hr.mono (by decide)) tkOf (pa_cons (pv 1) pa_nil)))
      (pss_cons (ps_if (pt_not (pt_trK (K := K) rfl (pe_get T.cl_Ring T.na_Ring_texts (pv 0)))) (pss_cons (ps_expr (pe_mt (pv 0) (m_Ring_push T) (hr.mono (by decide)) tkOf (pa_cons (pv 1) pa_nil)))
      (pss_one ps_retN)) pss_nil)
      (pss_cons (ps_asg (pe_ifExp (pt_val (pv 2)) (pe_op op_addS (pv 1) (pe_ix (ix_listK (K := K) rfl) (pe_get T.cl_Ring T.na_Ring_texts (pv 0)) pe_int (fun _ _ => rfl))) (pe_op op_addS (pe_ix (ix_listK (K := K) rfl) (pe_get T.cl_Ring T.na_Ring_texts (pv 0)) pe_int (fun _ _ => rfl)) (pv 1))) (pg_sub (pe_get T.cl_Ring T.na_Ring_texts (pv 0)) pe_int set_list))
      (pss_one (ps_put T.cl_Ring T.na_Ring_spot (pv 0) pe_int))))), ?_⟩
    walk_at "z"
    refine ⟨x, rfl, hx, fun ok H1 s1 => ?_, fun bad H1 s1 => k2 bad H1 s1⟩
    have R1 := R.same s1
    obtain ⟨⟨dx, ho⟩, hl⟩ := R1
    have npl : l ≠ p := ne_of hl ho (by intro z; cases z)
    have hx4 : x.length ≤ 400 := by
      unfold okText at ok
      rw [Bool.and_eq_true] at ok
      exact of_decide_eq_true ok.1
    walk_at "z"
    cases ts with
    | nil =>
      refine iteT ?_
      walk_at "z"
      refine ⟨p, l, m, s0, [], x, rfl, ⟨⟨dx, ho⟩, hl⟩, hx, by simp, hm, fun _ H2 l2 hl2 R2 f2 => ?_, fun bad => by rw [ok] at bad; cases bad⟩
      walk_at "z"
      refine k1 ok _ l2 (hl2.imp_right (fresh_of s1)) R2 ((Fr.same s1).trans (f2.mono (by simp)))
    | cons t r =>
      refine iteF ?_
      have ht : t.length ≤ 1000000 := hb t (by simp)
      have e0 : atI ((t :: r).map V.str) 0 = some (V.str t) := atI_nat (j := 0) rfl
      walk_at "z"
      refine ite_b (fun h1 => ?_) (fun h1 => ?_)
      · subst h1
        walk_at "z"
        refine z_ixL (SqL.of hl) e0 ?_
        walk_at "z"
        refine z_setL (j := 0) hl (by unfold ixN; simp) ?_
        walk_at "z"
        refine k1 ok _ l (.inl rfl) ⟨⟨dx, by walk_at "h"⟩, ?_⟩ (by walk_at "fr")
        rw [upd_ne npl, upd_same]; rfl
      · subst h1
        walk_at "z"
        refine z_ixL (SqL.of hl) e0 ?_
        walk_at "z"
        refine z_setL (j := 0) hl (by unfold ixN; simp) ?_
        walk_at "z"
        refine k1 ok _ l (.inl rfl) ⟨⟨dx, by walk_at "h"⟩, ?_⟩ (by walk_at "fr")
        rw [upd_ne npl, upd_same]; rfl
end

theorem sc_Hand_goal : FnScope ["self", "key", "text", "at"] ["self", "key"] (defScope s_Hand_goal) := ⟨rfl, rfl, rfl, by decide +kernel, rfl, by decide +kernel, by decide +kernel⟩
section
variable {P : Program} {w : World} {K : PySem.W.Frag} {mg : Str → Option Value} {base : Heap}
def sp_Hand_goal (K : PySem.W.Frag) : Sp := fun vs H Q _ => ∃ (p : Addr) (A : HA) (Z : HS) (key : Str), vs = [.ref p, .str key] ∧ HandAt K H p A Z ∧ LOk Z.line Z.n ∧ key ∈ MOVES ∧ ∀ H', Same H H' → Q (.int (goalL Z.line key)) H'
theorem m_Hand_goal (T : Tx K mg) : Mt P w K mg base (He.ga K "Hand") "goal" 4 ["self", "key"] (sp_Hand_goal K) := by
  obtain ⟨fd, F⟩ := T.c.d.def_ 65 (d := d_Hand_goal) rfl
  refine ⟨_, fd, F.ok (CX := L2.CX P w) sc_Hand_goal (fun vs H Q E h => ?len) (fun cdv A outer s H vs Q E hr h => ?body), T.me_Hand_goal, T.cl_Hand, F.bindsN fun _ _ _ _ _ _ us hl => match us, hl with | [_, _], _ => rfl⟩
  case len => obtain ⟨p, A, Z, key, rfl, h, hL, hk, k⟩ := h; rfl
  case body =>
    obtain ⟨p, A, Z, key, rfl, h, hL, hk, k⟩ := h
    refine ⟨_, (pss_cons (ps_set (i := 2) sc_Hand_goal.nd rfl (Or.inl rfl) (pe_mt0 (pe_get T.cl_Hand T.na_Hand_line (pv 0)) (m_Line_text T) (hr.mono (by decide)) tkOf))
      (pss_cons (ps_set (i := 3) sc_Hand_goal.nd rfl (Or.inl rfl) (pe_mt0 (pe_get T.cl_Hand T.na_Hand_line (pv 0)) (m_Line_at T) (hr.mono (by decide)) tkOf))
      (pss_cons (ps_if (pt_cmpR (op_inK (K := K) rfl) (pv 1) (pe_tup (pa_cons pe_str (pa_cons pe_str pa_nil))) rfl) (pss_one (ps_ret (pe_ifExp (pt_cmpR op_eq (pv 1) pe_str (nomark _)) (pe_callB (call_mx rfl) rfl T.n_max (by decide +kernel) (pa_cons pe_int (pa_cons (pe_op op_sub (pv 3) pe_int) pa_nil))) (pe_callB (call_mn rfl) rfl T.n_min (by decide +kernel) (pa_cons (pe_callB (call_lnK (K := K) rfl) rfl T.n_len boot_len (pa_cons (pv 2) pa_nil)) (pa_cons (pe_op op_add (pv 3) pe_int) pa_nil)))))) pss_nil)
      (pss_cons (ps_if (pt_cmpR (op_inK (K := K) rfl) (pv 1) (pe_tup (pa_cons pe_str (pa_cons pe_str pa_nil))) rfl) (pss_one (ps_ret (pe_ifExp (pt_cmpR op_eq (pv 1) pe_str (nomark _)) pe_int (pe_callB (call_lnK (K := K) rfl) rfl T.n_len boot_len (pa_cons (pv 2) pa_nil))))) pss_nil)
      (pss_one (ps_ret (pe_ifExp (pt_cmpR op_eq (pv 1) pe_str (nomark _)) (pe_fn (f_word_start T) (hr.mono (by decide)) tkOf (pa_cons (pv 2) (pa_cons (pv 3) pa_nil))) (pe_fn (f_word_end T) (hr.mono (by decide)) tkOf (pa_cons (pv 2) (pa_cons (pv 3) pa_nil)))))))))), ?_⟩
    have ho := h.ob
    obtain ⟨dl, hol⟩ := h.li.ob
    have ok := hL.ok.text
    have pl := hL.ok.caret
    have l4 := okText_len ok
    have hx : Z.line.now.length < sizeLine := by rw [sizeLine_eq]; omega
    walk_at "z"
    refine ⟨A.pl, A.lb, A.ll, Z.line, rfl, h.li, ?_⟩
    walk_at "z"
    refine ⟨A.pl, A.lb, A.ll, Z.line, rfl, h.li, ?_⟩
    simp only [MOVES, List.mem_cons, List.not_mem_nil, or_false] at hk
    rcases hk with rfl | rfl | rfl | rfl | rfl | rfl
    · walk_at "z"
      intro t1 ht1
      walk_at "z"
      simp only [max_ite]
      exact k _ (by walk_at "sa")
    · walk_at "z"
      intro t1 ht1
      walk_at "z"
      simp only [min_ite]
      exact k _ (by walk_at "sa")
    · walk_at "z"
      intro t1 ht1
      walk_at "z"
      intro t2 ht2
      walk_at "z"
      exact k _ (by walk_at "sa")
    · walk_at "z"
      intro t1 ht1
      walk_at "z"
      intro t2 ht2
      walk_at "z"
      exact k _ (by walk_at "sa")
    · walk_at "z"
      intro t1 ht1
      walk_at "z"
      intro t2 ht2
      walk_at "z"
      exact ⟨_, _, rfl, hx, fun _ _ H3 s3 => k _ (Same.trans (by walk_at "sa") s3), fun z => (by rw [ok] at z; cases z), fun _ z => absurd pl z⟩
    · walk_at "z"
      intro t1 ht1
      walk_at "z"
      intro t2 ht2
      walk_at "z"
      exact ⟨_, _, rfl, hx, fun _ _ H3 s3 => k _ (Same.trans (by walk_at "sa") s3), fun z => (by rw [ok] at z; cases z), fun _ z => absurd pl z⟩
end

theorem sc__law_pick : FnScope ["script", "town", "some"] ["script", "town", "some"] (defScope s__law_pick) := ⟨rfl, rfl, rfl, by decide +kernel, rfl, by decide +kernel, by decide +kernel⟩
section
variable {P : Program} {w : World} {K : PySem.W.Frag} {mg : Str → Option Value} {base : Heap}
def sp_law_pick (K : PySem.W.Frag) : Sp := fun vs H Q _ => ∃ (a t q : Addr) (ns : List Int) (zs xs : List V), vs = [.ref a, .ref t, .ref q] ∧ Scr K H a ns ∧ H t = some (.lst zs) ∧ zs.length < 100000 ∧ H q = some (.lst xs) ∧ xs ≠ [] ∧ q ≠ t ∧ ∀ v ∈ xs, ∀ H', H' t = some (.lst (zs ++ [.int 0])) → Fr [t] H H' → Q v H'
theorem pick_bs {H : Hp} {Q : VK} {E : XK} {a t q : Addr} {ns : List Int} {n : Nat} {xs : List V} (B : Bs K H a t ns n) (hn : n < 100000) (hq : H q = none) (hx : xs ≠ []) (k : ∀ v ∈ xs, ∀ (H' : Hp), Bs K H' a t ns (n + 1) → Fr [t] H H' → Q v H') : sp_law_pick K [.ref a, .ref t, .ref q] (upd H q (.lst xs)) Q E := by
  have s0 : Same H (upd H q (.lst xs)) := Same.new (Same.refl H) hq
  obtain ⟨hs, zs, tz, hz⟩ := id (B.same s0)
  obtain ⟨_, zs0, tz0, _⟩ := id B
  exact ⟨a, t, q, ns, zs, xs, rfl, hs, tz, by omega, upd_same, hx, (ne_of_none tz0 hq).symm, fun v hv H' t' f' => k v hv H' ⟨hs.fr f' (B.same s0).wrs.mu, _, t', by simp; omega⟩ ((Fr.same s0).trans f')⟩
theorem pick_old {H : Hp} {Q : VK} {E : XK} {a t q : Addr} {ns : List Int} {n : Nat} {xs : List V} (B : Bs K H a t ns n) (hn : n < 100000) (hq : H q = some (.lst xs)) (hqt : q ≠ t) (hx : xs ≠ []) (k : ∀ v ∈ xs, ∀ (H' : Hp), Bs K H' a t ns (n + 1) → Fr [t] H H' → Q v H') : sp_law_pick K [.ref a, .ref t, .ref q] H Q E := by
  obtain ⟨hs, zs, tz, hz⟩ := id B
  exact ⟨a, t, q, ns, zs, xs, rfl, hs, tz, by omega, hq, hx, hqt, fun v hv H' t' f' => k v hv H' ⟨hs.fr f' B.wrs.mu, _, t', by simp; omega⟩ f'⟩
theorem f__law_pick (T : Tx K mg) : Fn P w K mg base "_law_pick" 4 ["script", "town", "some"] (sp_law_pick K) := by
  obtain ⟨fd, F⟩ := T.c.d.def_ 84 (d := d__law_pick) rfl
  refine ⟨_, fd, F.ok (CX := L2.CX P w) sc__law_pick (fun vs H Q E h => ?len) (fun cdv A outer s H vs Q E hr h => ?body), T.g__law_pick, F.kp, F.bindsN fun _ _ _ _ _ _ us hl => match us, hl with | [_, _, _], _ => rfl, FunD.bindsA F fun _ _ _ _ _ _ us hl => match us, hl with | [_, _, _], _ => rfl⟩
  case len => obtain ⟨a, t, q, ns, zs, xs, rfl, hs, ht, hz, hq, hx, hqt, k⟩ := h; rfl
  case body =>
    obtain ⟨a, t, q, ns, zs, xs, rfl, hs, ht, hz, hq, hx, hqt, k⟩ := h
    refine ⟨_, (pss_one (ps_ret (pe_ix (ix_listK (K := K) rfl) (pv 2) (pe_fn (f__law_draw T) (hr.mono (by decide)) tkOf (pa_cons (pv 0) (pa_cons (pv 1) (pa_cons (pe_callB (call_lnK (K := K) rfl) rfl T.n_len boot_len (pa_cons (pv 2) pa_nil)) pa_nil)))) (fun _ _ => rfl)))), ?_⟩
    have hxl : 0 < xs.length := List.length_pos_iff.mpr hx
    walk_at "z"
    refine ⟨a, t, ns, zs, _, rfl, hs, ht, hz, by omega, fun d H' h0 h1 ht' f' => ?_⟩
    obtain ⟨j, rfl⟩ := Int.eq_ofNat_of_zero_le h0
    have hj : j < xs.length := by omega
    exact z_ixL (SqL.of (f' _ _ hq (not_mem1 hqt))) (atI_nat (List.getElem?_eq_getElem hj)) (k _ (List.getElem_mem hj) _ ht' f')
end

theorem sc__law_edit : FnScope ["state", "key", "text", "at", "mark", "later", "end", "here"] ["state", "key"] (defScope s__law_edit) := ⟨rfl, rfl, rfl, by decide +kernel, rfl, by decide +kernel, by decide +kernel⟩
section
variable {P : Program} {w : World} {K : PySem.W.Frag} {mg : Str → Option Value} {base : Heap}
theorem z_inD {K : PySem.W.Frag} {H : Hp} {Q : VK} {x : Str} (ys : List Str) (k : ∀ H', Same H H' → Q (.bl (decide (x ∈ ys))) H') : ∀ tp, H tp = none → rIn K false (.str x) (.ref tp) (upd H tp (.tup (ys.map V.str))) Q := fun tp h => z_inT ys (SqT.of upd_same) (k _ (Same.new (Same.refl _) h))
def sp_law_edit (K : PySem.W.Frag) : Sp := fun vs H Q _ => ∃ (d sb sl : Addr) (kvs : List (Key × V)) (M : LineS) (key : Str), vs = [.ref d, .str key] ∧ StAt H d sb sl kvs M ∧ M.Ok 400 ∧ M.before.length ≤ 100000 ∧ M.later.length ≤ 100000 ∧ editK key = true ∧ ∀ H' sl' kvs', sl' = sl ∨ H sl' = none → StAt H' d sb sl' kvs' (editL M key) → Ex stK kvs kvs' → Fr [d, sb, sl] H H' → Q .non H'
theorem f__law_edit (T : Tx K mg) : Fn P w K mg base "_law_edit" 4 ["state", "key"] (sp_law_edit K) := by
  obtain ⟨fd, F⟩ := T.c.d.def_ 94 (d := d__law_edit) rfl
  refine ⟨_, fd, F.ok (CX := L2.CX P w) sc__law_edit (fun vs H Q E h => ?len) (fun cdv A outer s H vs Q E hr h => ?body), T.g__law_edit, F.kp, F.bindsN fun _ _ _ _ _ _ us hl => match us, hl with | [_, _], _ => rfl, FunD.bindsA F fun _ _ _ _ _ _ us hl => match us, hl with | [_, _], _ => rfl⟩
  case len => obtain ⟨d, sb, sl, kvs, M, key, rfl, R, ok, hbl, hll0, hk, k⟩ := h; rfl
  case body =>
    obtain ⟨d, sb, sl, kvs, M, key, rfl, R, ok, hbl, hll0, hk, k⟩ := h
    have hu := hu_of hr
    refine ⟨_, (pss_cons (ps_asg (pe_dget hu (pv 0) pe_str (fun _ _ => rfl)) (pg_tupK (K := K) (n := 3) rfl rfl (pgs_cons (pg_name (i := 2) sc__law_edit.nd rfl (Or.inl rfl)) (pgs_cons (pg_name (i := 3) sc__law_edit.nd rfl (Or.inl rfl)) (pgs_cons (pg_name (i := 4) sc__law_edit.nd rfl (Or.inl rfl)) pgs_nil)))))
      (pss_cons (ps_if (pt_cmpR op_eq (pe_callB (call_lnK (K := K) rfl) rfl T.n_len boot_len (pa_cons (pv 1) pa_nil)) pe_int (nomark _)) (pss_cons (ps_expr (pe_fn (f__law_sign T) (hr.mono (by decide)) tkOf (pa_cons (pv 0) (pa_cons (pv 1) pa_nil))))
      (pss_one ps_retN)) pss_nil)
      (pss_cons (ps_dput hu (pv 0) pe_str pe_int rfl)
      (pss_one (ps_if (pt_cmpR (op_inK (K := K) rfl) (pv 1) (pe_tup (pa_cons pe_str (pa_cons pe_str (pa_cons pe_str (pa_cons pe_str (pa_cons pe_str (pa_cons pe_str pa_nil))))))) rfl) (pss_one (ps_dput hu (pv 0) pe_str (pe_tup (pa_cons (pv 2) (pa_cons (pe_fn (f__law_goal T) (hr.mono (by decide)) tkOf (pa_cons (pv 2) (pa_cons (pv 3) (pa_cons (pv 1) pa_nil)))) (pa_cons (pv 4) pa_nil)))) rfl)) (pss_one (ps_if (pt_cmpR (op_inK (K := K) rfl) (pv 1) (pe_tup (pa_cons pe_str (pa_cons pe_str pa_nil))) rfl) (pss_one (ps_expr (pe_fn (f__law_undo T) (hr.mono (by decide)) tkOf (pa_cons (pv 0) (pa_cons (pv 1) pa_nil))))) (pss_one (ps_if (pt_cmpR (op_inK (K := K) rfl) (pv 1) (pe_tup (pa_cons pe_str (pa_cons pe_str (pa_cons pe_str pa_nil)))) rfl) (pss_cons (ps_asg (pe_fn (f__law_recased T) (hr.mono (by decide)) tkOf (pa_cons (pv 2) (pa_cons (pv 3) (pa_cons (pv 1) pa_nil)))) (pg_tupK (K := K) (n := 2) rfl rfl (pgs_cons (pg_name (i := 5) sc__law_edit.nd rfl (Or.inl rfl)) (pgs_cons (pg_name (i := 6) sc__law_edit.nd rfl (Or.inl rfl)) pgs_nil))))
      (pss_one (ps_if (pt_cmpR op_eq (pv 5) (pv 2) (nomark _)) (pss_one (ps_dput hu (pv 0) pe_str (pe_tup (pa_cons (pv 2) (pa_cons (pv 6) (pa_cons (pv 4) pa_nil)))) rfl)) (pss_one (ps_expr (pe_fn (f__law_put T) (hr.mono (by decide)) tkOf (pa_cons (pv 0) (pa_cons (pv 3) (pa_cons (pv 6) (pa_cons (pe_slice sl_str (pv 5) (po_some (pv 3)) (po_some (pv 6))) (pa_cons (pv 6) pa_nil))))))))))) (pss_one (ps_if (PW.pt (pw_and (pt_cmpR op_eq (pv 1) pe_str (nomark _)) (pw_and1 (pt_cmpR op_gt (pv 3) pe_int (nomark _))))) (pss_one (ps_expr (pe_fn (f__law_put T) (hr.mono (by decide)) tkOf (pa_cons (pv 0) (pa_cons (pe_op op_sub (pv 3) pe_int) (pa_cons (pv 3) (pa_cons pe_str (pa_cons (pe_op op_sub (pv 3) pe_int) pa_nil)))))))) (pss_one (ps_if (PW.pt (pw_and (pt_cmpR op_eq (pv 1) pe_str (nomark _)) (pw_and1 (pt_cmpR op_lt (pv 3) (pe_callB (call_lnK (K := K) rfl) rfl T.n_len boot_len (pa_cons (pv 2) pa_nil)) (nomark _))))) (pss_one (ps_expr (pe_fn (f__law_put T) (hr.mono (by decide)) tkOf (pa_cons (pv 0) (pa_cons (pv 3) (pa_cons (pe_op op_add (pv 3) pe_int) (pa_cons pe_str (pa_cons (pv 3) pa_nil)))))))) (pss_one (ps_if (PW.pt (pw_and (pt_cmpR op_eq (pv 1) pe_str (nomark _)) (pw_and1 (pt_cmpR op_gt (pe_callB (call_mn rfl) rfl T.n_min (by decide +kernel) (pa_cons (pv 3) (pa_cons (pe_op op_sub (pe_callB (call_lnK (K := K) rfl) rfl T.n_len boot_len (pa_cons (pv 2) pa_nil)) pe_int) pa_nil))) pe_int (nomark _))))) (pss_cons (ps_set (i := 7) sc__law_edit.nd rfl (Or.inl rfl) (pe_callB (call_mn rfl) rfl T.n_min (by decide +kernel) (pa_cons (pv 3) (pa_cons (pe_op op_sub (pe_callB (call_lnK (K := K) rfl) rfl T.n_len boot_len (pa_cons (pv 2) pa_nil)) pe_int) pa_nil))))
      (pss_one (ps_expr (pe_fn (f__law_put T) (hr.mono (by decide)) tkOf (pa_cons (pv 0) (pa_cons (pe_op op_sub (pv 7) pe_int) (pa_cons (pe_op op_add (pv 7) pe_int) (pa_cons (pe_op op_addS (pe_ix ix_str (pv 2) (pv 7) (fun _ _ => rfl)) (pe_ix ix_str (pv 2) (pe_op op_sub (pv 7) pe_int) (fun _ _ => rfl))) (pa_cons (pe_op op_add (pv 7) pe_int) pa_nil))))))))) (pss_one (ps_if (PW.pt (pw_and (pt_cmpR op_eq (pv 1) pe_str (nomark _)) (pw_and1 (pt_cmpR op_ne (pv 2) pe_str (nomark _))))) (pss_one (ps_expr (pe_fn (f__law_put T) (hr.mono (by decide)) tkOf (pa_cons (pv 0) (pa_cons pe_int (pa_cons (pe_callB (call_lnK (K := K) rfl) rfl T.n_len boot_len (pa_cons (pv 2) pa_nil)) (pa_cons pe_str (pa_cons pe_int pa_nil)))))))) (pss_one (ps_if (pt_cmpR (op_inK (K := K) rfl) (pv 1) (pe_tup (pa_cons pe_str (pa_cons pe_str pa_nil))) rfl) (pss_one (ps_dput hu (pv 0) pe_str (pe_tup (pa_cons (pv 2) (pa_cons (pe_ifExp (pt_cmpR op_eq (pv 1) pe_str (nomark _)) (pv 3) (pv 4)) (pa_cons (pv 3) pa_nil)))) rfl)) pss_nil))))))))))))))))))), ?_⟩
    obtain ⟨ho, hlen, ⟨r, hr, hp0⟩, kb, kl, kr, hb, hll, hne⟩ := id R
    have hp : H r = some (.tup [.str M.now, .int M.caret, .int M.mark]) := hp0
    have hc := ok.caret
    unfold LineS.place at hc
    have l4 := ok.l400
    have tx := ok.text
    have hkl : key.length ≤ 400 := key_len (edit_key hk).1
    have e := len_tl M.now
    walk_at "z"
    refine ite_b (fun h1 => ?_) (fun h1 => ?_)
    · have h1' : (key.length : Int) = 1 := by simpa using h1
      have sg : isSign key = true := by
        unfold editK at hk
        rw [Bool.or_eq_true] at hk
        rcases hk with z | z
        · exact z
        · have nl : ∀ k ∈ EDITS, (tl k).length ≠ 1 := by decide +kernel
          have := nl key (of_decide_eq_true z)
          rw [← len_tl] at this; omega
      walk_at "z"
      refine ⟨d, sb, sl, kvs, M, key, rfl, R, l4, hc.1, sg, hbl, fun H' sl' kvs' e' R' ex' f' => ?_⟩
      walk_at "z"
      refine k H' sl' kvs' e' ?_ ex' (f'.mono (by simp))
      unfold editL; rw [if_pos sg]; exact R'
    have h1' : ¬ (key.length : Int) = 1 := by simpa using h1
    have sg : ¬ isSign key = true := fun z => by
      obtain ⟨c, rfl, _⟩ := sign_len z
      exact h1' rfl
    have hm : key ∈ EDITS := by
      unfold editK at hk
      rw [Bool.or_eq_true] at hk
      exact hk.elim (fun z => absurd z sg) of_decide_eq_true
    unfold editL at k
    rw [if_neg sg] at k
    walk_at "z"
    have R1 := R.putRun 0
    change StAt _ d sb sl _ M.rest at R1
    have f1 : Fr [d, sb, sl] H (upd H d (.dK (putK kvs (.inr "run") (.int 0)))) := Fr.upd Fr.refl (by simp)
    have x1 : Ex stK kvs (putK kvs (.inr "run") (.int 0)) := by walk_at "ex"
    have hr1 : DG (putK kvs (.inr "run") (.int 0)) "now" (.ref r) := by walk_at "dg"
    have hlen1 := R1.len
    generalize upd H d _ = H1 at R1 f1 ⊢
    generalize putK kvs (.inr (Str.ofString "run")) (.int 0) = kvs1 at *
    clear ho hp hp0 hb hll R
    have okR : M.rest.Ok 400 := ok.rest
    refine z_inD MOVES fun H2 s2 => ?_
    have R2 := R1.same s2
    have f2 : Fr [d, sb, sl] H H2 := f1.trans (Fr.same s2)
    clear R1 s2 f1
    by_cases m1 : key ∈ MOVES
    · rw [decide_eq_true m1]
      rw [if_pos m1] at k
      walk_at "z"
      refine ⟨M.rest, key, rfl, tx, ok.caret, m1, fun H3 s3 => ?_⟩
      have R3 := R2.same s3
      have ho3 := R3.ob
      walk_at "z"
      intro r4 hr4
      have R4 := R3.same (Same.new (Same.refl _) hr4 (o := .tup [.str M.now, .int (goalL M.rest key), .int M.mark]))
      have R5 := R4.putNow (P := ⟨M.now, goalL M.rest key, M.mark⟩) upd_same
      walk_at "z"
      exact k _ sl _ (.inl rfl) R5 (x1.trans (by walk_at "ex")) ((f2.trans (Fr.same s3)).trans (by walk_at "fr"))
    rw [decide_eq_false m1]
    rw [if_neg m1] at k
    walk_at "z"
    refine z_inD ["undo", "redo"] fun H3 s3 => ?_
    have R3 := R2.same s3
    have f3 : Fr [d, sb, sl] H H3 := f2.trans (Fr.same s3)
    clear R2 s3 f2
    by_cases m2 : key ∈ (["undo", "redo"] : List Str)
    · rw [decide_eq_true m2]
      rw [if_pos m2] at k
      have m2' : key = "undo" ∨ key = "redo" := by simpa using m2
      walk_at "z"
      refine ⟨d, sb, sl, kvs1, M.rest, key, 400, rfl, m2', R3, okR, rfl, hbl, hll0, fun H' kvs' R' ex' f' => ?_⟩
      walk_at "z"
      refine k H' sl kvs' (.inl rfl) ?_ (x1.trans ex') (f3.trans f')
      have eb : (back key M.rest).2 = M.rest.undoK key := by unfold back LineS.undoK; split <;> rfl
      rw [← eb]; exact R'
    rw [decide_eq_false m2]
    rw [if_neg m2] at k
    walk_at "z"
    refine z_inD ["great", "small", "cap"] fun H4 s4 => ?_
    have R4 := R3.same s4
    have f4 : Fr [d, sb, sl] H H4 := f3.trans (Fr.same s4)
    clear R3 s4 f3
    by_cases m3 : key ∈ (["great", "small", "cap"] : List Str)
    · rw [decide_eq_true m3]
      rw [if_pos m3] at k
      have m3' : key = "great" ∨ key = "small" ∨ key = "cap" := by simpa using m3
      walk_at "z"
      refine ⟨M.now, M.caret, key, rfl, tx, ok.caret, m3', fun H5 r5 hr5 s5 h5 => ?_⟩
      have R5 := R4.same s5
      have f5 : Fr [d, sb, sl] H H5 := f4.trans (Fr.same s5)
      have ho5 := R5.ob
      have a1 : M.caret.toNat ≤ (tl M.now).length := by omega
      have w2 := wEnd_le a1
      have w3 := wBeg_le a1
      have rl : (S (recL key (tl M.now) M.caret.toNat)).length = M.now.length := by rw [len_S, len_recL a1, e]
      have hrx : (S (recL key (tl M.now) M.caret.toNat)).length ≤ sizeLine := by rw [sizeLine_eq]; omega
      unfold LineS.recase at k
      change ∀ H' sl' kvs', _ → StAt H' d sb sl' kvs' (if S (recL key (tl M.now) M.caret.toNat) = M.now then M.rest.go (wEnd (tl M.now) M.caret.toNat : Nat) else M.rest.change M.caret (wEnd (tl M.now) M.caret.toNat : Nat) (subS (S (recL key (tl M.now) M.caret.toNat)) M.caret (wEnd (tl M.now) M.caret.toNat : Nat)) (wEnd (tl M.now) M.caret.toNat : Nat)) → _ at k
      generalize S (recL key (tl M.now) M.caret.toNat) = rr at *
      generalize wEnd (tl M.now) M.caret.toNat = en at *
      walk_at "z"
      refine ite_b (fun g1 => ?_) (fun g1 => ?_)
      · have g1' : rr = M.now := by simpa using g1
        rw [if_pos g1'] at k
        walk_at "z"
        intro r6 hr6
        have R6 := R5.same (Same.new (Same.refl _) hr6 (o := .tup [.str M.now, .int (en : Nat), .int M.mark]))
        have R7 := R6.putNow (P := ⟨M.now, (en : Nat), M.mark⟩) upd_same
        walk_at "z"
        exact k _ sl _ (.inl rfl) R7 (x1.trans (by walk_at "ex")) (f5.trans (by walk_at "fr"))
      · have g1' : ¬ rr = M.now := by simpa using g1
        rw [if_neg g1'] at k
        walk_at "z"
        have ec : cutS rr (some M.caret) (some ((en : Nat) : Int)) = subS rr M.caret (en : Nat) := by
          rw [cutS_eq, cutL_mid _ hc.1 (by omega)]; rfl
        rw [ec]
        have sl2 := sub_len (x := rr) (f := M.caret) (l := (en : Nat)) hc.1 (by omega) (by omega)
        refine ⟨d, sb, sl, kvs1, M.rest, _, _, _, _, rfl, R5, by show M.now.length ≤ 1000; omega, by omega, hc.1, by omega, hbl, fun H' sl' kvs' hs' R' ex' f' => ?_⟩
        walk_at "z"
        exact k H' sl' kvs' (.inr (f5.freeA R5.alive hs')) R' (x1.trans ex') (f5.trans (f'.mono (by simp)))
    rw [decide_eq_false m3]
    rw [if_neg m3] at k
    have hm6 : key = "rub" ∨ key = "del" ∨ key = "swap" ∨ key = "cancel" ∨ key = "mark" ∨ key = "swapmark" := by
      revert hm m1 m2 m3
      have : ∀ q ∈ EDITS, q ∉ MOVES → q ∉ (["undo", "redo"] : List Str) → q ∉ (["great", "small", "cap"] : List Str) → q = "rub" ∨ q = "del" ∨ q = "swap" ∨ q = "cancel" ∨ q = "mark" ∨ q = "swapmark" := by decide +kernel
      exact this key
    clear m1 m2 m3 hm h1 h1' sg hk
    have ho4 := R4.ob
    rcases hm6 with rfl | rfl | rfl | rfl | rfl | rfl
    · rw [if_pos (by decide)] at k
      have ek : M.rest.take "rub" = if 0 < M.caret then M.rest.change (M.caret - 1) M.caret "" (M.caret - 1) else M.rest := rfl
      rw [ek] at k
      walk_at "z"
      refine ite_b (fun g => ?_) (fun g => ?_)
      · have g' : 0 < M.caret := of_decide_eq_true g
        rw [if_pos g'] at k
        walk_at "z"
        refine ⟨d, sb, sl, kvs1, M.rest, _, _, _, "", rfl, R4, by show M.now.length ≤ 1000; omega, by decide, by omega, by omega, hbl, fun H' sl' kvs' hs' R' ex' f' => ?_⟩
        walk_at "z"
        exact k H' sl' kvs' (.inr (f4.freeA R4.alive hs')) R' (x1.trans ex') (f4.trans (f'.mono (by simp)))
      · have g' : ¬ 0 < M.caret := of_decide_eq_false g
        rw [if_neg g'] at k
        walk_at "z"
        refine z_inD ["mark", "swapmark"] fun H5 s5 => ?_
        rw [decide_eq_false (by decide)]
        walk_at "z"
        exact k H5 sl kvs1 (.inl rfl) (R4.same s5) x1 (f4.trans (Fr.same s5))
    · rw [if_pos (by decide)] at k
      have ek : M.rest.take "del" = if M.caret < M.now.length then M.rest.change M.caret (M.caret + 1) "" M.caret else M.rest := rfl
      rw [ek] at k
      walk_at "z"
      refine ite_b (fun g => ?_) (fun g => ?_)
      · have g' : M.caret < M.now.length := of_decide_eq_true g
        rw [if_pos g'] at k
        walk_at "z"
        refine ⟨d, sb, sl, kvs1, M.rest, _, _, _, "", rfl, R4, by show M.now.length ≤ 1000; omega, by decide, by omega, by omega, hbl, fun H' sl' kvs' hs' R' ex' f' => ?_⟩
        walk_at "z"
        exact k H' sl' kvs' (.inr (f4.freeA R4.alive hs')) R' (x1.trans ex') (f4.trans (f'.mono (by simp)))
      · have g' : ¬ M.caret < M.now.length := of_decide_eq_false g
        rw [if_neg g'] at k
        walk_at "z"
        refine z_inD ["mark", "swapmark"] fun H5 s5 => ?_
        rw [decide_eq_false (by decide)]
        walk_at "z"
        exact k H5 sl kvs1 (.inl rfl) (R4.same s5) x1 (f4.trans (Fr.same s5))
    · rw [if_neg (by decide), if_pos rfl] at k
      walk_at "z"
      simp only [min_ite]
      have ea : min M.caret ((M.now.length : Int) - 1) = M.rest.swapAt := rfl
      rw [ea]
      have a2 : M.rest.swapAt ≤ (M.now.length : Int) - 1 := by rw [← ea]; omega
      have es : M.rest.swap = if 0 < M.rest.swapAt then M.rest.change (M.rest.swapAt - 1) (M.rest.swapAt + 1) (S [(tl M.now).getD M.rest.swapAt.toNat 0, (tl M.now).getD (M.rest.swapAt - 1).toNat 0]) (M.rest.swapAt + 1) else M.rest := rfl
      rw [es] at k
      generalize es0 : M.rest.swapAt = s0 at *
      refine ite_b (fun g => ?_) (fun g => ?_)
      · have g' : 0 < s0 := of_decide_eq_true g
        rw [if_pos g'] at k
        have hx : M.now.length ≤ sizeLine := by rw [sizeLine_eq]; omega
        have g0 : atI (tl M.now) s0 = some ((tl M.now).getD s0.toNat 0) := by
          rw [show s0 = ((s0.toNat : Nat) : Int) by omega]
          refine atI_nat ?_
          rw [show (((s0.toNat : Nat) : Int)).toNat = s0.toNat by omega, List.getD_eq_getElem?_getD, List.getElem?_eq_getElem (by omega)]; rfl
        have g1 : atI (tl M.now) (s0 - 1) = some ((tl M.now).getD (s0 - 1).toNat 0) := by
          rw [show s0 - 1 = (((s0 - 1).toNat : Nat) : Int) by omega]
          refine atI_nat ?_
          rw [show ((((s0 - 1).toNat : Nat) : Int)).toNat = (s0 - 1).toNat by omega, List.getD_eq_getElem?_getD, List.getElem?_eq_getElem (by omega)]; rfl
        walk_at "z"
        simp only [min_ite]
        rw [ea]
        walk_at "z"
        refine z_ixS hx g0 ?_
        walk_at "z"
        refine z_ixS hx g1 ?_
        refine z_addS (by show 1 + 1 ≤ _; decide) ?_
        walk_at "z"
        refine ⟨d, sb, sl, kvs1, M.rest, s0 - 1, s0 + 1, s0 + 1, S [(tl M.now).getD s0.toNat 0, (tl M.now).getD (s0 - 1).toNat 0], rfl, R4, by show M.now.length ≤ 1000; omega, by show 2 ≤ 1000; decide, by omega, by omega, hbl, fun H' sl' kvs' hs' R' ex' f' => ?_⟩
        walk_at "z"
        exact k H' sl' kvs' (.inr (f4.freeA R4.alive hs')) R' (x1.trans ex') (f4.trans (f'.mono (by simp)))
      · have g' : ¬ 0 < s0 := of_decide_eq_false g
        rw [if_neg g'] at k
        walk_at "z"
        refine z_inD ["mark", "swapmark"] fun H5 s5 => ?_
        rw [decide_eq_false (by decide)]
        walk_at "z"
        exact k H5 sl kvs1 (.inl rfl) (R4.same s5) x1 (f4.trans (Fr.same s5))
    · rw [if_neg (by decide), if_neg (by decide), if_neg (by decide), if_neg (by decide)] at k
      have ek : M.rest.wipe = if M.now = "" then M.rest else M.rest.change 0 M.now.length "" 0 := rfl
      rw [ek] at k
      walk_at "z"
      refine ite_b (fun g => ?_) (fun g => ?_)
      · have g' : ¬ M.now = "" := by simpa using g
        rw [if_neg g'] at k
        walk_at "z"
        refine ⟨d, sb, sl, kvs1, M.rest, _, _, _, "", rfl, R4, by show M.now.length ≤ 1000; omega, by decide, by omega, by omega, hbl, fun H' sl' kvs' hs' R' ex' f' => ?_⟩
        walk_at "z"
        exact k H' sl' kvs' (.inr (f4.freeA R4.alive hs')) R' (x1.trans ex') (f4.trans (f'.mono (by simp)))
      · have g' : M.now = "" := by simpa using g
        rw [if_pos g'] at k
        walk_at "z"
        refine z_inD ["mark", "swapmark"] fun H5 s5 => ?_
        rw [decide_eq_false (by decide)]
        walk_at "z"
        exact k H5 sl kvs1 (.inl rfl) (R4.same s5) x1 (f4.trans (Fr.same s5))
    · rw [if_neg (by decide), if_neg (by decide), if_pos rfl] at k
      walk_at "z"
      refine z_inD ["mark", "swapmark"] fun H5 s5 => ?_
      rw [decide_eq_true (by decide)]
      have R5 := R4.same s5
      have ho5 := R5.ob
      walk_at "z"
      intro r6 hr6
      have R6 := R5.same (Same.new (Same.refl _) hr6 (o := .tup [.str M.now, .int M.caret, .int M.caret]))
      have R7 := R6.putNow (P := ⟨M.now, M.caret, M.caret⟩) upd_same
      walk_at "z"
      exact k _ sl _ (.inl rfl) R7 (x1.trans (by walk_at "ex")) ((f4.trans (Fr.same s5)).trans (by walk_at "fr"))
    · rw [if_neg (by decide), if_neg (by decide), if_neg (by decide), if_pos rfl] at k
      walk_at "z"
      refine z_inD ["mark", "swapmark"] fun H5 s5 => ?_
      rw [decide_eq_true (by decide)]
      have R5 := R4.same s5
      have ho5 := R5.ob
      walk_at "z"
      intro r6 hr6
      have R6 := R5.same (Same.new (Same.refl _) hr6 (o := .tup [.str M.now, .int M.mark, .int M.caret]))
      have R7 := R6.putNow (P := ⟨M.now, M.mark, M.caret⟩) upd_same
      walk_at "z"
      exact k _ sl _ (.inl rfl) R7 (x1.trans (by walk_at "ex")) ((f4.trans (Fr.same s5)).trans (by walk_at "fr"))
end

theorem sc_Filler_common : FnScope ["self", "text", "at", "some", "found", "word"] ["self", "text", "at"] (defScope s_Filler_common) := ⟨rfl, rfl, rfl, by decide +kernel, rfl, by decide +kernel, by decide +kernel⟩
section
variable {P : Program} {w : World} {K : PySem.W.Frag} {mg : Str → Option Value} {base : Heap}
theorem take_starts {s0 : Str} {ws : List Str} {n : Nat} (h : n ≤ (tl s0).length) : wk s0 ws n = ws.all fun w => Txt.startswith w (S ((tl s0).take n)) := by
  unfold wk
  congr 1
  funext w
  rw [starts_eq, tl_S, List.length_take, Nat.min_eq_left h]
def sp_Filler_common (K : PySem.W.Frag) : Sp := fun vs H Q E => ∃ (p l : Addr) (ws : List Str) (x : Str) (a : Int), vs = [.ref p, .str x, .int a] ∧ FillAt K H p l ws ∧ ws.length < 1000 ∧ (∀ w ∈ ws, w.length ≤ 400) ∧ x.length < sizeLine ∧ (okText x = true → LineS.place x a → ∀ H', Same H H' → Q (.str (fCommon (fFit ws (fPart x a.toNat)) (fPart x a.toNat))) H') ∧ (okText x = false → ∀ H', Same H H' → E (.ref (He.ga K "BadText")) none H') ∧ (okText x = true → ¬ LineS.place x a → ∀ H', Same H H' → E (.ref (He.ga K "BadPlace")) none H')
theorem m_Filler_common (T : Tx K mg) : Mt P w K mg base (He.ga K "Filler") "common" 5 ["self", "text", "at"] (sp_Filler_common K) := by
  obtain ⟨fd, F⟩ := T.c.d.def_ 11 (d := d_Filler_common) rfl
  refine ⟨_, fd, F.ok (CX := L2.CX P w) sc_Filler_common (fun vs H Q E h => ?len) (fun cdv A outer s H vs Q E hr h => ?body), T.me_Filler_common, T.cl_Filler, F.bindsN fun _ _ _ _ _ _ us hl => match us, hl with | [_, _, _], _ => rfl⟩
  case len => obtain ⟨p, l, ws, x, a, rfl, R, hws, hw4, hx, k1, k2, k3⟩ := h; rfl
  case body =>
    obtain ⟨p, l, ws, x, a, rfl, R, hws, hw4, hx, k1, k2, k3⟩ := h
    refine ⟨_, (pss_cons (ps_set (i := 3) sc_Filler_common.nd rfl (Or.inr rfl) (pe_mt (pv 0) (m_Filler_fitting T) (hr.mono (by decide)) tkOf (pa_cons (pv 1) (pa_cons (pv 2) pa_nil))))
      (pss_cons (ps_set (i := 4) sc_Filler_common.nd rfl (Or.inr rfl) (pe_slice sl_str (pv 1) (po_some (pe_mt (pv 0) (m_Filler_start T) (hr.mono (by decide)) tkOf (pa_cons (pv 1) (pa_cons (pv 2) pa_nil)))) (po_some (pv 2))))
      (pss_cons (ps_if (pt_not (pt_trK (K := K) rfl (pv 3))) (pss_one (ps_ret (pv 4))) pss_nil)
      (pss_cons (ps_while passOf (PW.pt (pw_and (pt_cmpR op_lt (pe_callB (call_lnK (K := K) rfl) rfl T.n_len boot_len (pa_cons (pv 4) pa_nil)) (pe_callB (call_lnK (K := K) rfl) rfl T.n_len boot_len (pa_cons (pe_ix (ix_listK (K := K) rfl) (pv 3) pe_int (fun _ _ => rfl)) pa_nil)) (nomark _)) (pw_and1 (pt_val (pe_callB (cr_allK (K := K) rfl rfl) rfl T.n_all (by decide +kernel) (pa_cons (pe_lc (own := [("word", 5)]) rfl sc_Filler_common.nd (pi_listK (K := K) rfl (pv 3)) (blkOk_by (N := ["self", "text", "at", "some", "found", "word"]) (sc := defScope s_Filler_common) (by decide +kernel)) (fun _ _ _ _ _ => (pg_name (i := 5) sc_Filler_common.nd rfl (Or.inl rfl))) (fun _ _ _ _ _ => pts_nil) (fun _ _ _ _ _ => (pe_bmK (K := K) rfl PySem.F.plainAttrs_str PySem.F.slot_str_startswith PySem.F.type_str_startswith mt_startsN (pv 5) (pa_cons (pe_slice sl_str (pe_ix (ix_listK (K := K) rfl) (pv 3) pe_int (fun _ _ => rfl)) po_none (po_some (pe_op op_add (pe_callB (call_lnK (K := K) rfl) rfl T.n_len boot_len (pa_cons (pv 4) pa_nil)) pe_int))) pa_nil)))) pa_nil)))))) (pss_one (ps_set (i := 4) sc_Filler_common.nd rfl (Or.inr rfl) (pe_slice sl_str (pe_ix (ix_listK (K := K) rfl) (pv 3) pe_int (fun _ _ => rfl)) po_none (po_some (pe_op op_add (pe_callB (call_lnK (K := K) rfl) rfl T.n_len boot_len (pa_cons (pv 4) pa_nil)) pe_int))))))
      (pss_one (ps_ret (pv 4))))))), ?_⟩
    obtain ⟨dx, ho⟩ := R.ob
    walk_at "z"
    refine ⟨p, l, ws, x, a, rfl, R, hws, hx, fun ok pl H1 r hr s1 h1 => ?_, k2, k3⟩
    have kk := k1 ok pl
    have R1 := R.same s1
    have e := len_tl x
    have hl := okText_len ok
    obtain ⟨⟨dx, ho1⟩, _⟩ := id R1
    walk_at "z"
    refine ⟨p, x, a, rfl, hx, fun _ _ H2 s2 => ?_, fun z => (by rw [ok] at z; cases z), fun _ z => absurd pl z⟩
    obtain ⟨n, rfl⟩ := Int.eq_ofNat_of_zero_le pl.1
    have hn : n ≤ (tl x).length := by have := pl.2; omega
    rw [show ((n : Int)).toNat = n by omega] at kk h1 ⊢
    have h2 := s2 _ _ h1
    have s02 := Same.trans s1 s2
    clear k1 k2 k3 R R1 ho ho1 s1 s2 h1
    have hp4 : (fPart x n).length ≤ 400 := by
      unfold fPart
      rw [len_S, List.length_take, List.length_drop]; omega
    have hf4 : ∀ w ∈ fFit ws (fPart x n), w.length ≤ 400 := fun w hw => hw4 w (List.mem_filter.mp hw).1
    have hfs : ∀ w ∈ fFit ws (fPart x n), (tl w).take (tl (fPart x n)).length = tl (fPart x n) := fun w hw => by
      have := (List.mem_filter.mp hw).2
      rw [starts_eq] at this
      exact of_decide_eq_true this
    have hfl : (fFit ws (fPart x n)).length < 1000 := Nat.lt_of_le_of_lt (List.length_filter_le _ _) hws
    walk_at "z"
    rw [cut_part hn]
    generalize fPart x n = part at *
    generalize hF : fFit ws part = F at *
    walk_at "z"
    cases F with
    | nil =>
      walk_at "z"
      exact kk _ s02
    | cons s0 rest =>
      walk_at "z"
      have e0 := len_tl s0
      have ep := len_tl part
      have h0l := hf4 s0 (by simp)
      have hpre := hfs s0 (by simp)
      have hpl0 : (tl part).length ≤ (tl s0).length := by
        have := congrArg List.length hpre
        rw [List.length_take] at this
        omega
      have hw0 : wk s0 (s0 :: rest) (tl part).length = true := List.all_eq_true.mpr fun w hw => decide_eq_true (by rw [hfs w hw, hpre])
      have hpart : part = S ((tl s0).take (tl part).length) := by apply str_ext; rw [tl_S, hpre]
      refine z_while (fun c σ' H' => ∃ m : Nat, σ' = [some (.ref p), some (.str x), some (.int (n : Nat)), some (.ref r), some (.str (S ((tl s0).take m))), none] ∧ Same H H' ∧ H' r = some (.lst ((s0 :: rest).map V.str)) ∧ m ≤ (tl s0).length ∧ wk s0 (s0 :: rest) m = true ∧ c = (tl s0).length - m) ((tl s0).length - (tl part).length) ⟨(tl part).length, by rw [← hpart]; rfl, s02, h2, hpl0, hw0, rfl⟩ ?_
      clear h2 s02
      rintro c σ' H3 ⟨m, rfl, s3, h3, hm, hwm, hc⟩
      have hlm : (S ((tl s0).take m)).length = m := by rw [len_S, List.length_take]; omega
      have fin : (m = (tl s0).length ∨ wk s0 (s0 :: rest) (m + 1) = false) → ∀ H4, Same H H4 → Q (.str (S ((tl s0).take m))) H4 := fun z H4 s4 => by
        have := lcpD_eq (N := s0.length) hwm (by omega) (by rw [e0]; exact z)
        have k4 := kk H4 s4
        unfold fCommon at k4
        simp only [this] at k4
        exact k4
      walk_at "z"
      refine z_ixL (v := .str s0) (SqL.of h3) (atI_nat (j := 0) rfl) ?_
      walk_at "z"
      rw [hlm]
      refine ite_b (fun g1 => ?_) (fun g1 => ?_)
      · have g1' := of_decide_eq_true g1
        walk_at "z"
        intro D hD
        refine lc_lstP (xs := (s0 :: rest).map V.str) (fun _ => true) (fun v => match v with | .str w => .bl (Txt.startswith w (S ((tl s0).take (m + 1)))) | _ => .non) (SqL.of h3) (by rw [List.length_map]; omega) (by intro v; rfl) hD ?_ ?_ ?_
        · intro v hv H4 Q4 s4 q
          walk_at "z"
          exact q
        · intro v hv H4 Q4 _ s4 q
          obtain ⟨w, _, rfl⟩ := mem_strs hv
          walk_at "z"
          refine z_ixL (v := .str s0) (SqL.of (s4 _ _ h3)) (atI_nat (j := 0) rfl) ?_
          walk_at "z"
          rw [hlm, cutS_eq, cutL_to _ (by omega), show ((m : Int) + 1).toNat = m + 1 by omega]
          walk_at "z"
          exact q
        have s4 : Same H3 (upd H3 D (.lst ((((s0 :: rest).map V.str).filter fun _ => true).map (fun v => match v with | .str w => .bl (Txt.startswith w (S ((tl s0).take (m + 1)))) | _ => .non)))) := Same.new (Same.refl _) hD
        walk_at "z"
        refine z_all ((s0 :: rest).map fun w => Txt.startswith w (S ((tl s0).take (m + 1)))) (SqL.of (by rw [upd_same, List.filter_eq_self.mpr (fun _ _ => rfl), List.map_map, List.map_map]; rfl)) ?_
        have ew : ((s0 :: rest).map fun w => Txt.startswith w (S ((tl s0).take (m + 1)))).all id = wk s0 (s0 :: rest) (m + 1) := by
          rw [take_starts (by omega), List.all_map]; rfl
        rw [ew]
        walk_at "z"
        refine ite_b (fun g2 => ?_) (fun g2 => ?_)
        · refine z_turn ?_
          have h4 := s4 _ _ h3
          walk_at "z"
          refine z_ixL (v := .str s0) (SqL.of h4) (atI_nat (j := 0) rfl) ?_
          walk_at "z"
          rw [hlm, cutS_eq, cutL_to _ (by omega), show ((m : Int) + 1).toNat = m + 1 by omega]
          walk_at "z"
          exact ⟨(tl s0).length - (m + 1), by omega, m + 1, rfl, Same.trans s3 s4, h4, by omega, g2, rfl⟩
        · walk_at "z"
          exact fin (.inr g2) _ (Same.trans s3 s4)
      · have g1' := of_decide_eq_false g1
        walk_at "z"
        exact fin (.inl (by omega)) _ s3
end

theorem sc_Hand_init : FnScope ["self", "words", "width"] ["self", "words", "width"] (defScope s_Hand_init) := ⟨rfl, rfl, rfl, by decide +kernel, rfl, by decide +kernel, by decide +kernel⟩
section
variable {P : Program} {w : World} {K : PySem.W.Frag} {mg : Str → Option Value} {base : Heap}
def sp_Hand_init (K : PySem.W.Frag) : Sp := fun vs H Q E => ∃ (p dx q : Addr) (xs : List Str) (w : Int), vs = [.ref p, .ref q, .int w] ∧ H p = some (.ins (He.ga K "Hand") dx []) ∧ H q = some (.lst (xs.map V.str)) ∧ (∀ x ∈ xs, x.length < sizeLine) ∧ xs.length < 1000 ∧
  (fillOk xs = true → xs.length < 64 ∧ (4 ≤ w → w ≤ 400 → ∀ H' A ws, HandAt K H' p A (HS.new ws w) → Srt ws xs → ws.length ≤ xs.length → Fr [p] H H' → (∀ y ∈ A.X p, y = p ∨ H y = none) → Q .non H') ∧ (¬ (4 ≤ w ∧ w ≤ 400) → ∀ H', Fr [p] H H' → E (.ref (He.ga K "BadSize")) none H')) ∧ (fillOk xs = false → ∀ H', Fr [p] H H' → E (.ref (He.ga K "BadText")) none H')
theorem new_ok {ws xs : List Str} {w : Int} (ok : fillOk xs = true) (sr : Srt ws xs) (wl : ws.length ≤ xs.length) (w4 : 4 ≤ w) (w400 : w ≤ 400) : (HS.new ws w).Ok := by
  unfold fillOk at ok
  rw [Bool.and_eq_true] at ok
  have l2 := of_decide_eq_true ok.1
  refine ⟨LOk.fresh empty_ok, ⟨(fun _ h => nomatch h), Nat.zero_le _, Int.le_refl _, .inl rfl⟩, ⟨(fun _ h => nomatch h), Nat.zero_le _, (fun t ht => ?_), rfl, Nat.le_refl _⟩, (fun t ht => ?_), Nat.le_trans wl l2, w4, w400, Int.le_refl _, (fun _ h => nomatch h), Nat.le_refl _, (fun z => nomatch z), (fun _ z => nomatch z), (fun _ z => nomatch z), (fun _ z => nomatch z), (fun _ z => nomatch z), (fun _ z => nomatch z), ⟨Nat.zero_le _, fun _ h => nomatch h⟩⟩
  · have ht : t ∈ [("" : Str)] := ht
    rw [List.mem_singleton.mp ht]; exact empty_ok
  · have := List.all_eq_true.mp ok.2 t ((sr.mem t).mp ht)
    unfold wordOk at this
    exact (Bool.and_eq_true_iff.mp this).1
theorem hand_new {H : Hp} {Q : Hp → Prop} {E : XK} {x dx q : Addr} {xs : List Str} {w : Int} (hx : H x = none) (hdx : H dx = none) (hne : dx ≠ x) (hq : H q = some (.lst (xs.map V.str))) (ok : fillOk xs = true) (few : xs.length < 64) (w4 : 4 ≤ w) (w400 : w ≤ 400) (k : ∀ H' A ws, HandAt K H' x A (HS.new ws w) → (HS.new ws w).Ok → Srt ws xs → Same H H' → (∀ y ∈ A.X x, H y = none) → Q H') : sp_Hand_init K [.ref x, .ref q, .int w] (upd (upd H dx (.own x)) x (.ins (He.ga K "Hand") dx [])) (fun v H2 => v = .non ∧ Q H2) E := by
  have s0 : Same H (upd (upd H dx (.own x)) x (.ins (He.ga K "Hand") dx [])) := fun b o e => by rw [upd_ne (ne_of_none e hx), upd_ne (ne_of_none e hdx)]; exact e
  have wl : ∀ y ∈ xs, y.length < sizeLine := fun y hy => by
    unfold fillOk at ok
    rw [Bool.and_eq_true] at ok
    have := List.all_eq_true.mp ok.2 y hy
    unfold wordOk at this
    have := okText_len (Bool.and_eq_true_iff.mp this).1
    rw [sizeLine_eq]; omega
  refine ⟨x, dx, q, xs, w, rfl, upd_same, s0 _ _ hq, wl, by omega, fun _ => ⟨few, fun _ _ H' A ws h sr l f nx => ⟨rfl, ?_⟩, fun z => absurd ⟨w4, w400⟩ z⟩, fun z => (by rw [ok] at z; cases z)⟩
  refine k H' A ws h (new_ok ok sr l w4 w400) sr (Fr.drop s0 f (by simpa using hx)) fun y hy => ?_
  rcases nx y hy with z | z
  · rw [z]; exact hx
  · exact fresh_of s0 z
theorem mk_Hand (T : Tx K mg) : Mkr P w K mg base "Hand" (He.ga K "Hand") 5 ["self", "words", "width"] (sp_Hand_init K) := by
  obtain ⟨fd, F⟩ := T.c.d.def_ 52 (d := d_Hand_init) rfl
  refine ⟨_, fd, F.ok (CX := L2.CX P w) sc_Hand_init (fun vs H Q E h => ?len) (fun cdv A outer s H vs Q E hr h => ?body), T.mr_Hand, T.g_Hand, F.bindsN fun _ _ _ _ _ _ us hl => match us, hl with | [_, _, _], _ => rfl⟩
  case len => obtain ⟨p, dx, q, xs, w, rfl, hp, hq, hx, hxl, k1, k2⟩ := h; rfl
  case body =>
    obtain ⟨p, dx, q, xs, w, rfl, hp, hq, hx, hxl, k1, k2⟩ := h
    refine ⟨_, (pss_cons (ps_put T.cl_Hand T.na_Hand_line (pv 0) (pe_mk (mk_Line T) (hr.mono (by decide)) tkOf (pa_cons pe_str pa_nil)))
      (pss_cons (ps_put T.cl_Hand T.na_Hand_ring (pv 0) (pe_mk (mk_Ring T) (hr.mono (by decide)) tkOf (pa_cons pe_int pa_nil)))
      (pss_cons (ps_put T.cl_Hand T.na_Hand_history (pv 0) (pe_mk (mk_History T) (hr.mono (by decide)) tkOf (pa_cons pe_int pa_nil)))
      (pss_cons (ps_put T.cl_Hand T.na_Hand_filler (pv 0) (pe_mk (mk_Filler T) (hr.mono (by decide)) tkOf (pa_cons (pv 1) pa_nil)))
      (pss_cons (ps_put T.cl_Hand T.na_Hand_window (pv 0) (pe_mk (mk_Window T) (hr.mono (by decide)) tkOf (pa_cons (pv 2) pa_nil)))
      (pss_cons (ps_put T.cl_Hand T.na_Hand_entered (pv 0) (pe_lst pa_nil))
      (pss_cons (ps_put T.cl_Hand T.na_Hand_last_cut (pv 0) pe_bl)
      (pss_cons (ps_put T.cl_Hand T.na_Hand_times (pv 0) pe_non)
      (pss_cons (ps_put T.cl_Hand T.na_Hand_yanked (pv 0) pe_non)
      (pss_cons (ps_put T.cl_Hand T.na_Hand_search (pv 0) pe_non)
      (pss_cons (ps_put T.cl_Hand T.na_Hand_choice (pv 0) pe_non)
      (pss_cons (ps_put T.cl_Hand T.na_Hand_keys_kept (pv 0) pe_non)
      (pss_one (ps_put T.cl_Hand T.na_Hand_macro (pv 0) (pe_lst pa_nil))))))))))))))), ?_⟩
    have nqp : q ≠ p := ne_of hq hp (by intro z; cases z)
    have N := NewB.init hp
    walk_at "z"
    intro pl d1 hpl hd1 hne1
    have s0 : Same H (upd (upd H d1 (.own pl)) pl (.ins (He.ga K "Line") d1 [])) := fun b o e => by rw [upd_ne (ne_of_none e hpl), upd_ne (ne_of_none e hd1)]; exact e
    refine ⟨pl, d1, "", rfl, upd_same, by rw [sizeLine_eq]; decide, fun _ H2 lb ll hlb hll R f2 => ⟨rfl, ?_⟩, fun z => (by rw [empty_ok] at z; cases z)⟩
    have s2 : Same H H2 := Fr.drop s0 f2 (by simpa using hpl)
    have hp2 := s2 _ _ hp
    walk_at "z"
    have N1 := N.step (F := [pl, lb, ll]) s2 (by simp only [List.mem_cons, List.not_mem_nil, or_false]; rintro y (rfl | rfl | rfl); exact hpl; exact fresh_of s0 hlb; exact fresh_of s0 hll) R.alive (putF "line" (.ref pl) [])
    have RL := R.ap (Fr.upd Fr.refl (by simp) : Fr [p] H2 (upd H2 p (.ins (He.ga K "Hand") dx (putF "line" (.ref pl) [])))) (.cons (.ins hp2) wrs_nil) (N1.np _ (by simp))
    clear N R f2 s0 hlb hll
    generalize upd H2 p _ = H3 at N1 RL ⊢
    clear hp2 s2
    have hp3 := N1.ob
    change ∀ (pr d2 : Addr), _
    intro pr d2 hpr hd2 hne2
    have s0 : Same H3 (upd (upd H3 d2 (.own pr)) pr (.ins (He.ga K "Ring") d2 [])) := fun b o e => by rw [upd_ne (ne_of_none e hpr), upd_ne (ne_of_none e hd2)]; exact e
    refine ⟨pr, d2, 10, rfl, upd_same, fun _ _ H4 rl hrl R f2 => ⟨rfl, ?_⟩, fun z => absurd ⟨by decide, by decide⟩ z⟩
    have s2 : Same H3 H4 := Fr.drop s0 f2 (by simpa using hpr)
    have hp4 := s2 _ _ hp3
    walk_at "z"
    have N2 := N1.step (F := [pr, rl]) s2 (by simp only [List.mem_cons, List.not_mem_nil, or_false]; rintro y (rfl | rfl); exact hpr; exact fresh_of s0 hrl) R.wr.2 (putF "ring" (.ref pr) (putF "line" (.ref pl) []))
    have f3 : Fr [p] H3 (upd H4 p (.ins (He.ga K "Hand") dx (putF "ring" (.ref pr) (putF "line" (.ref pl) [])))) := Fr.upd (Fr.same s2) (by simp)
    have RR := R.ap (Fr.upd Fr.refl (by simp) : Fr [p] H4 (upd H4 p (.ins (He.ga K "Hand") dx (putF "ring" (.ref pr) (putF "line" (.ref pl) []))))) (.cons (.ins hp4) wrs_nil) (N2.np _ (by simp))
    have RL := RL.ap f3 N1.wr (N2.np _ (by simp))
    clear N1 R f2 s0 hrl f3
    generalize upd H4 p _ = H5 at N2 RL RR ⊢
    clear hp4 s2 hp3
    have hp5 := N2.ob
    intro ph d3 hph hd3 hne3
    have s0 : Same H5 (upd (upd H5 d3 (.own ph)) ph (.ins (He.ga K "History") d3 [])) := fun b o e => by rw [upd_ne (ne_of_none e hph), upd_ne (ne_of_none e hd3)]; exact e
    refine ⟨ph, d3, 50, rfl, upd_same, fun _ _ H6 hk hs hhk hhs R f2 => ⟨rfl, ?_⟩, fun z => absurd ⟨by decide, by decide⟩ z⟩
    have s2 : Same H5 H6 := Fr.drop s0 f2 (by simpa using hph)
    have hp6 := s2 _ _ hp5
    walk_at "z"
    have N3 := N2.step (F := [ph, hk, hs]) s2 (by simp only [List.mem_cons, List.not_mem_nil, or_false]; rintro y (rfl | rfl | rfl); exact hph; exact fresh_of s0 hhk; exact fresh_of s0 hhs) R.wr.2 (putF "history" (.ref ph) (putF "ring" (.ref pr) (putF "line" (.ref pl) [])))
    have f3 : Fr [p] H5 (upd H6 p (.ins (He.ga K "Hand") dx (putF "history" (.ref ph) (putF "ring" (.ref pr) (putF "line" (.ref pl) []))))) := Fr.upd (Fr.same s2) (by simp)
    have RH := R.ap (Fr.upd Fr.refl (by simp) : Fr [p] H6 (upd H6 p (.ins (He.ga K "Hand") dx (putF "history" (.ref ph) (putF "ring" (.ref pr) (putF "line" (.ref pl) [])))))) (.cons (.ins hp6) wrs_nil) (N3.np _ (by simp))
    have RL := RL.ap f3 N2.wr (N3.np _ (by simp))
    have RR := RR.ap f3 N2.wr (N3.np _ (by simp))
    clear N2 R f2 s0 hhk hhs f3
    generalize upd H6 p _ = H7 at N3 RL RR RH ⊢
    clear hp6 s2 hp5
    have hp7 := N3.ob
    have hq7 := N3.fr _ _ hq (by simpa using nqp)
    intro pf d4 hpf hd4 hne4
    have s0 : Same H7 (upd (upd H7 d4 (.own pf)) pf (.ins (He.ga K "Filler") d4 [])) := fun b o e => by rw [upd_ne (ne_of_none e hpf), upd_ne (ne_of_none e hd4)]; exact e
    refine ⟨pf, d4, q, xs, rfl, upd_same, SqL.of (s0 _ _ hq7), hx, hxl, fun fo => ⟨(k1 fo).1, fun H8 fl ws hfl R srt wsl f2 => ⟨rfl, ?_⟩⟩, fun fo H8 s8 => k2 fo H8 (N3.fr.trans (Fr.same (s0.trans s8)))⟩
    have k1 := (k1 fo).2
    clear k2
    have s2 : Same H7 H8 := Fr.drop s0 f2 (by simpa using hpf)
    have hp8 := s2 _ _ hp7
    walk_at "z"
    have N4 := N3.step (F := [pf, fl]) s2 (by simp only [List.mem_cons, List.not_mem_nil, or_false]; rintro y (rfl | rfl); exact hpf; exact fresh_of s0 hfl) R.wr.2 (putF "filler" (.ref pf) (putF "history" (.ref ph) (putF "ring" (.ref pr) (putF "line" (.ref pl) []))))
    have f3 : Fr [p] H7 (upd H8 p (.ins (He.ga K "Hand") dx (putF "filler" (.ref pf) (putF "history" (.ref ph) (putF "ring" (.ref pr) (putF "line" (.ref pl) [])))))) := Fr.upd (Fr.same s2) (by simp)
    have RF := R.ap (Fr.upd Fr.refl (by simp) : Fr [p] H8 (upd H8 p (.ins (He.ga K "Hand") dx (putF "filler" (.ref pf) (putF "history" (.ref ph) (putF "ring" (.ref pr) (putF "line" (.ref pl) []))))))) (.cons (.ins hp8) wrs_nil) (N4.np _ (by simp))
    have RL := RL.ap f3 N3.wr (N4.np _ (by simp))
    have RR := RR.ap f3 N3.wr (N4.np _ (by simp))
    have RH := RH.ap f3 N3.wr (N4.np _ (by simp))
    clear N3 R f2 s0 hfl f3 hq7
    generalize upd H8 p _ = H9 at N4 RL RR RH RF ⊢
    clear hp8 s2 hp7
    have hp9 := N4.ob
    intro pw d5 hpw hd5 hne5
    have s0 : Same H9 (upd (upd H9 d5 (.own pw)) pw (.ins (He.ga K "Window") d5 [])) := fun b o e => by rw [upd_ne (ne_of_none e hpw), upd_ne (ne_of_none e hd5)]; exact e
    refine ⟨pw, d5, w, rfl, upd_same, fun w4 w400 H10 R f2 => ⟨rfl, ?_⟩, fun z => k1.2 z _ (N4.fr.trans (Fr.same s0))⟩
    have k1 := k1.1 w4 w400
    have s2 : Same H9 H10 := Fr.drop s0 f2 (by simpa using hpw)
    have hp10 := s2 _ _ hp9
    walk_at "z"
    have N5 := N4.step (F := [pw]) s2 (by simp only [List.mem_cons, List.not_mem_nil, or_false]; rintro y rfl; exact hpw) (by obtain ⟨_, e⟩ := id R; exact (wr1_ins e).2) (putF "window" (.ref pw) (putF "filler" (.ref pf) (putF "history" (.ref ph) (putF "ring" (.ref pr) (putF "line" (.ref pl) [])))))
    have f3 : Fr [p] H9 (upd H10 p (.ins (He.ga K "Hand") dx (putF "window" (.ref pw) (putF "filler" (.ref pf) (putF "history" (.ref ph) (putF "ring" (.ref pr) (putF "line" (.ref pl) []))))))) := Fr.upd (Fr.same s2) (by simp)
    have RW := R.ap (Fr.upd Fr.refl (by simp) : Fr [p] H10 (upd H10 p (.ins (He.ga K "Hand") dx (putF "window" (.ref pw) (putF "filler" (.ref pf) (putF "history" (.ref ph) (putF "ring" (.ref pr) (putF "line" (.ref pl) [])))))))) (.cons (.ins hp10) wrs_nil) (N5.np _ (by simp))
    have RL := RL.ap f3 N4.wr (N5.np _ (by simp))
    have RR := RR.ap f3 N4.wr (N5.np _ (by simp))
    have RH := RH.ap f3 N4.wr (N5.np _ (by simp))
    have RF := RF.ap f3 N4.wr (N5.np _ (by simp))
    clear N4 R f2 s0 f3
    generalize upd H10 p _ = H11 at N5 RL RR RH RF RW ⊢
    clear hp10 s2 hp9
    have hp11 := N5.ob
    intro el hel
    have s2 : Same H11 (upd H11 el (.lst [])) := by walk_at "sa"
    have hp12 := s2 _ _ hp11
    have eE : upd H11 el (.lst []) el = some (.lst (([] : List Str).map V.str)) := upd_same
    generalize upd H11 el _ = H12 at s2 hp12 eE ⊢
    walk_at "z"
    simp only [upd_upd]
    have N6 := N5.step (F := [el]) s2 (by simp only [List.mem_cons, List.not_mem_nil, or_false]; rintro y rfl; exact hel) (wr1_lst eE).2 (putF "keys_kept" .non (putF "choice" .non (putF "search" .non (putF "yanked" .non (putF "times" .non (putF "last_cut" (.bl false) (putF "entered" (.ref el) (putF "window" (.ref pw) (putF "filler" (.ref pf) (putF "history" (.ref ph) (putF "ring" (.ref pr) (putF "line" (.ref pl) []))))))))))))
    have f3 : Fr [p] H11 (upd H12 p (.ins (He.ga K "Hand") dx (putF "keys_kept" .non (putF "choice" .non (putF "search" .non (putF "yanked" .non (putF "times" .non (putF "last_cut" (.bl false) (putF "entered" (.ref el) (putF "window" (.ref pw) (putF "filler" (.ref pf) (putF "history" (.ref ph) (putF "ring" (.ref pr) (putF "line" (.ref pl) [])))))))))))))) := Fr.upd (Fr.same s2) (by simp)
    have RL := RL.ap f3 N5.wr (N6.np _ (by simp))
    have RR := RR.ap f3 N5.wr (N6.np _ (by simp))
    have RH := RH.ap f3 N5.wr (N6.np _ (by simp))
    have RF := RF.ap f3 N5.wr (N6.np _ (by simp))
    have RW := RW.ap f3 N5.wr (N6.np _ (by simp))
    have eE := (Fr.upd Fr.refl (by simp) : Fr [p] H12 (upd H12 p (.ins (He.ga K "Hand") dx (putF "keys_kept" .non (putF "choice" .non (putF "search" .non (putF "yanked" .non (putF "times" .non (putF "last_cut" (.bl false) (putF "entered" (.ref el) (putF "window" (.ref pw) (putF "filler" (.ref pf) (putF "history" (.ref ph) (putF "ring" (.ref pr) (putF "line" (.ref pl) []))))))))))))))) _ _ eE (N6.np [el] (by simp) el (by simp))
    clear N5 f3
    generalize upd H12 p _ = H13 at N6 RL RR RH RF RW eE ⊢
    clear s2 hp12
    have hp13 := N6.ob
    intro ml hml
    have s2 : Same H13 (upd H13 ml (.lst [])) := by walk_at "sa"
    have hp14 := s2 _ _ hp13
    have eM : upd H13 ml (.lst []) ml = some (.lst (([] : List Str).map V.str)) := upd_same
    generalize upd H13 ml _ = H14 at s2 hp14 eM ⊢
    walk_at "z"
    have N7 := N6.step (F := [ml]) s2 (by simp only [List.mem_cons, List.not_mem_nil, or_false]; rintro y rfl; exact hml) (wr1_lst eM).2 (putF "macro" (.ref ml) (putF "keys_kept" .non (putF "choice" .non (putF "search" .non (putF "yanked" .non (putF "times" .non (putF "last_cut" (.bl false) (putF "entered" (.ref el) (putF "window" (.ref pw) (putF "filler" (.ref pf) (putF "history" (.ref ph) (putF "ring" (.ref pr) (putF "line" (.ref pl) [])))))))))))))
    have f3 : Fr [p] H13 (upd H14 p (.ins (He.ga K "Hand") dx (putF "macro" (.ref ml) (putF "keys_kept" .non (putF "choice" .non (putF "search" .non (putF "yanked" .non (putF "times" .non (putF "last_cut" (.bl false) (putF "entered" (.ref el) (putF "window" (.ref pw) (putF "filler" (.ref pf) (putF "history" (.ref ph) (putF "ring" (.ref pr) (putF "line" (.ref pl) []))))))))))))))) := Fr.upd (Fr.same s2) (by simp)
    have RL := RL.ap f3 N6.wr (N7.np _ (by simp))
    have RR := RR.ap f3 N6.wr (N7.np _ (by simp))
    have RH := RH.ap f3 N6.wr (N7.np _ (by simp))
    have RF := RF.ap f3 N6.wr (N7.np _ (by simp))
    have RW := RW.ap f3 N6.wr (N7.np _ (by simp))
    have eE := f3 _ _ eE (N7.np [el] (by simp) el (by simp))
    have eM := (Fr.upd Fr.refl (by simp) : Fr [p] H14 (upd H14 p (.ins (He.ga K "Hand") dx (putF "macro" (.ref ml) (putF "keys_kept" .non (putF "choice" .non (putF "search" .non (putF "yanked" .non (putF "times" .non (putF "last_cut" (.bl false) (putF "entered" (.ref el) (putF "window" (.ref pw) (putF "filler" (.ref pf) (putF "history" (.ref ph) (putF "ring" (.ref pr) (putF "line" (.ref pl) [])))))))))))))))) _ _ eM (N7.np [ml] (by simp) ml (by simp))
    refine k1 _ ⟨dx, pl, lb, ll, pr, rl, ph, hk, hs, pf, fl, pw, el, ml, .non, .non, [], .non, [], .non, []⟩ ws ⟨N7.ob, RL, RR, RH, RF, RW, eE, eM, ⟨rfl, rfl⟩, rfl, ⟨rfl, rfl⟩, ⟨rfl, rfl⟩, ?_⟩ srt wsl N7.fr ?_
    · show ([p] :: (([] ++ [[pl, lb, ll]] ++ [[pr, rl]] ++ [[ph, hk, hs]] ++ [[pf, fl]] ++ [[pw]] ++ [[el]] ++ [[ml]]) ++ [[], [], []])).Pairwise Ap
      have nil : ∀ (X : List Addr) (F : List Addr), F ∈ ([[], [], []] : List (List Addr)) → Ap X F := fun X F hF => by
        have : F = [] := by simpa using hF
        rw [this]; exact fun _ _ z => nomatch z
      rw [List.pairwise_cons, List.pairwise_append]
      refine ⟨fun F hF => ?_, N7.pw, ?_, fun X _ F hF => nil X F hF⟩
      · rcases List.mem_append.mp hF with z | z
        · exact (N7.np F z).symm
        · exact nil _ F z
      · exact .cons (fun F _ => fun _ z => nomatch z) (.cons (fun F _ => fun _ z => nomatch z) (.cons (fun _ h => nomatch h) .nil))
    · intro y hy
      obtain ⟨F, hF, hy⟩ := List.mem_flatten.mp hy
      have hF : F ∈ [p] :: (([] ++ [[pl, lb, ll]] ++ [[pr, rl]] ++ [[ph, hk, hs]] ++ [[pf, fl]] ++ [[pw]] ++ [[el]] ++ [[ml]]) ++ [[], [], []]) := hF
      rcases List.mem_cons.mp hF with rfl | hF
      · exact .inl (List.mem_singleton.mp hy)
      rcases List.mem_append.mp hF with z | z
      · exact .inr (N7.nw F z y hy)
      · have : F = [] := by simpa using z
        rw [this] at hy; cases hy
end

theorem sc_Hand_take : FnScope ["self", "key", "at"] ["self", "key"] (defScope s_Hand_take) := ⟨rfl, rfl, rfl, by decide +kernel, rfl, by decide +kernel, by decide +kernel⟩
section
variable {P : Program} {w : World} {K : PySem.W.Frag} {mg : Str → Option Value} {base : Heap}
/-- a change of a hand's line, within it -/
theorem hand_change2 {K : PySem.W.Frag} {H : Hp} {p : Addr} {A : HA} {Z : HS} {f l c : Int} {new : Str} {Q : VK} {E : XK} (h : HandAt K H p A Z) (hL : LOk Z.line Z.n) (hn : Z.n ≤ 90000) (h0 : 0 ≤ f) (h1 : f ≤ l) (h2 : l ≤ Z.line.now.length) (ok : okText new = true) (hl : (Z.line.now.length : Int) - (l - f) + new.length ≤ 400)
    (k : ∀ H' A', A'.cv = A.cv ∧ A'.cfp = A.cfp → HandAt K H' p A' { Z with line := Z.line.change f l new c } → Mq H H' p A A' → Q .non H') : sp_Line_change K [.ref A.pl, .int f, .int l, .str new, .int c] H Q E := by
  have ck : chk Z.line f l new = none := chk_none ⟨h0, by omega⟩ ⟨by omega, h2⟩ ok hl
  have l4 := okText_len hL.ok.text
  have n4 := okText_len ok
  have lb := hL.b
  refine ⟨A.pl, A.lb, A.ll, Z.line, f, l, c, new, rfl, h.li, l4, by rw [sizeLine_eq]; omega, by omega, fun _ H' ll' hll R f' => ?_, fun e he => by rw [ck] at he; cases he⟩
  obtain ⟨a, b⟩ := h.line (f'.mono (by simp [HA.fL])) R (((nw_nil.new hll).old (by simp [HA.fL])).old (by simp [HA.fL]))
  exact k H' { A with ll := ll' } ⟨rfl, rfl⟩ a b
theorem hand_change {K : PySem.W.Frag} {H : Hp} {p : Addr} {A : HA} {Z : HS} {f l c : Int} {new : Str} {Q : VK} {E : XK} (h : HandAt K H p A Z) (hL : LOk Z.line Z.n) (hn : Z.n ≤ 90000) (h0 : 0 ≤ f) (h1 : f ≤ l) (h2 : l ≤ Z.line.now.length) (ok : okText new = true) (hl : (Z.line.now.length : Int) - (l - f) + new.length ≤ 400)
    (k : ∀ H' A', HandAt K H' p A' { Z with line := Z.line.change f l new c } → Mq H H' p A A' → Q .non H') : sp_Line_change K [.ref A.pl, .int f, .int l, .str new, .int c] H Q E := hand_change2 h hL hn h0 h1 h2 ok hl fun H' A' _ => k H' A'
def sp_Hand_take (K : PySem.W.Frag) : Sp := fun vs H Q _ => ∃ (p : Addr) (A : HA) (Z : HS) (key : Str), vs = [.ref p, .str key] ∧ HandAt K H p A Z ∧ LOk Z.line Z.n ∧ Z.n ≤ 90000 ∧ key ∈ (["rub", "del"] : List Str) ∧ ∀ H' A', HandAt K H' p A' { Z with line := Z.line.take key } → Mq H H' p A A' → Q .non H'
theorem m_Hand_take (T : Tx K mg) : Mt P w K mg base (He.ga K "Hand") "take" 5 ["self", "key"] (sp_Hand_take K) := by
  obtain ⟨fd, F⟩ := T.c.d.def_ 68 (d := d_Hand_take) rfl
  refine ⟨_, fd, F.ok (CX := L2.CX P w) sc_Hand_take (fun vs H Q E h => ?len) (fun cdv A outer s H vs Q E hr h => ?body), T.me_Hand_take, T.cl_Hand, F.bindsN fun _ _ _ _ _ _ us hl => match us, hl with | [_, _], _ => rfl⟩
  case len => obtain ⟨p, A, Z, key, rfl, h, hL, hn, hk, k⟩ := h; rfl
  case body =>
    obtain ⟨p, A, Z, key, rfl, h, hL, hn, hk, k⟩ := h
    refine ⟨_, (pss_cons (ps_set (i := 2) sc_Hand_take.nd rfl (Or.inl rfl) (pe_mt0 (pe_get T.cl_Hand T.na_Hand_line (pv 0)) (m_Line_at T) (hr.mono (by decide)) tkOf))
      (pss_cons (ps_if (PW.pt (pw_and (pt_cmpR op_eq (pv 1) pe_str (nomark _)) (pw_and1 (pt_cmpR op_gt (pv 2) pe_int (nomark _))))) (pss_one (ps_expr (pe_mt (pe_get T.cl_Hand T.na_Hand_line (pv 0)) (m_Line_change T) (hr.mono (by decide)) tkOf (pa_cons (pe_op op_sub (pv 2) pe_int) (pa_cons (pv 2) (pa_cons pe_str (pa_cons (pe_op op_sub (pv 2) pe_int) pa_nil))))))) pss_nil)
      (pss_one (ps_if (PW.pt (pw_and (pt_cmpR op_eq (pv 1) pe_str (nomark _)) (pw_and1 (pt_cmpR op_lt (pv 2) (pe_callB (call_lnK (K := K) rfl) rfl T.n_len boot_len (pa_cons (pe_mt0 (pe_get T.cl_Hand T.na_Hand_line (pv 0)) (m_Line_text T) (hr.mono (by decide)) tkOf) pa_nil)) (nomark _))))) (pss_one (ps_expr (pe_mt (pe_get T.cl_Hand T.na_Hand_line (pv 0)) (m_Line_change T) (hr.mono (by decide)) tkOf (pa_cons (pv 2) (pa_cons (pe_op op_add (pv 2) pe_int) (pa_cons pe_str (pa_cons (pv 2) pa_nil))))))) pss_nil)))), ?_⟩
    have ho := h.ob
    obtain ⟨dl, hol⟩ := h.li.ob
    have l4 := okText_len hL.ok.text
    have le : (Str.ofString "").length = 0 := rfl
    have pl := hL.ok.caret
    unfold LineS.place at pl
    walk_at "z"
    refine ⟨A.pl, A.lb, A.ll, Z.line, rfl, h.li, ?_⟩
    simp only [List.mem_cons, List.not_mem_nil, or_false] at hk
    rcases hk with rfl | rfl
    · walk_at "z"
      refine ite_b (fun h1 => ?_) (fun h1 => ?_)
      · have h1' : 0 < Z.line.caret := of_decide_eq_true h1
        have et : Z.line.take "rub" = Z.line.change (Z.line.caret - 1) Z.line.caret "" (Z.line.caret - 1) := by unfold LineS.take; rw [if_pos rfl, if_pos h1']
        rw [et] at k
        walk_at "z"
        refine hand_change h hL hn (by omega) (by omega) pl.2 empty_ok (by rw [le]; omega) fun H' A' h' m' => ?_
        walk_at "z"
        exact k H' A' h' m'
      · have h1' : ¬ 0 < Z.line.caret := of_decide_eq_false h1
        have et : Z.line.take "rub" = Z.line := by unfold LineS.take; rw [if_pos rfl, if_neg h1']
        rw [et] at k
        walk_at "z"
        exact k _ A h Mq.refl
    · walk_at "z"
      refine ⟨A.pl, A.lb, A.ll, Z.line, rfl, h.li, ?_⟩
      have hx : Z.line.now.length ≤ sizeLine := by rw [sizeLine_eq]; omega
      walk_at "z"
      refine ite_b (fun h1 => ?_) (fun h1 => ?_)
      · have h1' : Z.line.caret < Z.line.now.length := of_decide_eq_true h1
        have et : Z.line.take "del" = Z.line.change Z.line.caret (Z.line.caret + 1) "" Z.line.caret := by unfold LineS.take; rw [if_neg (by decide), if_pos rfl, if_pos h1']
        rw [et] at k
        walk_at "z"
        refine hand_change h hL hn (by omega) (by omega) (by omega) empty_ok (by rw [le]; omega) fun H' A' h' m' => ?_
        walk_at "z"
        exact k H' A' h' m'
      · have h1' : ¬ Z.line.caret < Z.line.now.length := of_decide_eq_false h1
        have et : Z.line.take "del" = Z.line := by unfold LineS.take; rw [if_neg (by decide), if_pos rfl, if_neg h1']
        rw [et] at k
        walk_at "z"
        exact k _ A h Mq.refl
end

theorem sc_Hand_cut : FnScope ["self", "key", "text", "at", "first", "last", "is_more"] ["self", "key"] (defScope s_Hand_cut) := ⟨rfl, rfl, rfl, by decide +kernel, rfl, by decide +kernel, by decide +kernel⟩
section
variable {P : Program} {w : World} {K : PySem.W.Frag} {mg : Str → Option Value} {base : Heap}
def sp_Hand_cut (K : PySem.W.Frag) : Sp := fun vs H Q _ => ∃ (p : Addr) (A : HA) (Z : HS) (key : Str), vs = [.ref p, .str key] ∧ HandAt K H p A Z ∧ Z.Ok ∧ Z.n ≤ 90000 ∧ key ∈ CUTS ∧ ∀ H' A', HandAt K H' p A' (Z.doCut key) → Mq H H' p A A' → Q .non H'
theorem m_Hand_cut (T : Tx K mg) : Mt P w K mg base (He.ga K "Hand") "cut" 5 ["self", "key"] (sp_Hand_cut K) := by
  obtain ⟨fd, F⟩ := T.c.d.def_ 67 (d := d_Hand_cut) rfl
  refine ⟨_, fd, F.ok (CX := L2.CX P w) sc_Hand_cut (fun vs H Q E h => ?len) (fun cdv A outer s H vs Q E hr h => ?body), T.me_Hand_cut, T.cl_Hand, F.bindsN fun _ _ _ _ _ _ us hl => match us, hl with | [_, _], _ => rfl⟩
  case len => obtain ⟨p, A, Z, key, rfl, h, hO, hn, hk, k⟩ := h; rfl
  case body =>
    obtain ⟨p, A, Z, key, rfl, h, hO, hn, hk, k⟩ := h
    refine ⟨_, (pss_cons (ps_set (i := 2) sc_Hand_cut.nd rfl (Or.inl rfl) (pe_mt0 (pe_get T.cl_Hand T.na_Hand_line (pv 0)) (m_Line_text T) (hr.mono (by decide)) tkOf))
      (pss_cons (ps_set (i := 3) sc_Hand_cut.nd rfl (Or.inl rfl) (pe_mt0 (pe_get T.cl_Hand T.na_Hand_line (pv 0)) (m_Line_at T) (hr.mono (by decide)) tkOf))
      (pss_cons (ps_asg (pe_mt0 (pv 0) (m_Hand_between T) (hr.mono (by decide)) tkOf) (pg_tupK (K := K) (n := 2) rfl rfl (pgs_cons (pg_name (i := 4) sc_Hand_cut.nd rfl (Or.inl rfl)) (pgs_cons (pg_name (i := 5) sc_Hand_cut.nd rfl (Or.inl rfl)) pgs_nil))))
      (Evl.pss_cut (ps_if (PW.pt (pw_or (pt_cmpR op_eq (pv 1) pe_str (nomark _)) (pw_or1 (pt_cmpR op_eq (pv 1) pe_str (nomark _))))) (pss_one (ps_par (i := 4) (j := 5) rfl sc_Hand_cut.nd rfl rfl (by decide) rfl rfl (pa_cons (pe_ifExp (pt_cmpR op_eq (pv 1) pe_str (nomark _)) (pe_fn (f_word_start T) (hr.mono (by decide)) tkOf (pa_cons (pv 2) (pa_cons (pv 3) pa_nil))) pe_int) (pa_cons (pv 3) pa_nil)) rfl)) (pss_one (ps_if (pt_cmpR op_ne (pv 1) pe_str (nomark _)) (pss_one (ps_par (i := 4) (j := 5) rfl sc_Hand_cut.nd rfl rfl (by decide) rfl rfl (pa_cons (pv 3) (pa_cons (pe_ifExp (pt_cmpR op_eq (pv 1) pe_str (nomark _)) (pe_fn (f_word_end T) (hr.mono (by decide)) tkOf (pa_cons (pv 2) (pa_cons (pv 3) pa_nil))) (pe_callB (call_lnK (K := K) rfl) rfl T.n_len boot_len (pa_cons (pv 2) pa_nil))) pa_nil)) rfl)) pss_nil)))
      (pss_cons (ps_set (i := 6) sc_Hand_cut.nd rfl (Or.inl rfl) (pe_get T.cl_Hand T.na_Hand_last_cut (pv 0)))
      (pss_cons (ps_put T.cl_Hand T.na_Hand_last_cut (pv 0) (pe_cmpR op_lt (pv 4) (pv 5) (nomark _)))
      (pss_cons (ps_if (pt_cmpR op_eq (pv 4) (pv 5) (nomark _)) (pss_one ps_retN) pss_nil)
      (Evl.pss_cut (ps_if (pt_val (pv 6)) (pss_one (ps_expr (pe_mt (pe_get T.cl_Hand T.na_Hand_ring (pv 0)) (m_Ring_join T) (hr.mono (by decide)) tkOf (pa_cons (pe_slice sl_str (pv 2) (po_some (pv 4)) (po_some (pv 5))) (pa_cons (pe_cmpR (op_inK (K := K) rfl) (pv 1) (pe_tup (pa_cons pe_str (pa_cons pe_str pa_nil))) rfl) pa_nil))))) (pss_one (ps_expr (pe_mt (pe_get T.cl_Hand T.na_Hand_ring (pv 0)) (m_Ring_push T) (hr.mono (by decide)) tkOf (pa_cons (pe_slice sl_str (pv 2) (po_some (pv 4)) (po_some (pv 5))) pa_nil)))))
      (pss_one (ps_expr (pe_mt (pe_get T.cl_Hand T.na_Hand_line (pv 0)) (m_Line_change T) (hr.mono (by decide)) tkOf (pa_cons (pv 4) (pa_cons (pv 5) (pa_cons pe_str (pa_cons (pv 4) pa_nil))))))))))))))), ?_⟩
    have ho := h.ob
    obtain ⟨dl, hol⟩ := h.li.ob
    have hL := hO.li
    have ok := hL.ok.text
    have pl := hL.ok.caret
    have l4 := okText_len ok
    have hx : Z.line.now.length < sizeLine := by rw [sizeLine_eq]; omega
    have hx' : Z.line.now.length ≤ sizeLine := Nat.le_of_lt hx
    obtain ⟨r0, r1, r2⟩ := cut_range (key := key) hL
    walk_at "z"
    refine ⟨A.pl, A.lb, A.ll, Z.line, rfl, h.li, ?_⟩
    walk_at "z"
    refine ⟨A.pl, A.lb, A.ll, Z.line, rfl, h.li, ?_⟩
    walk_at "z"
    refine ⟨p, A, Z, rfl, h, fun b hb => ?_⟩
    have s1 : Same H (upd H b (.tup [.int (min Z.line.caret Z.line.mark), .int (max Z.line.caret Z.line.mark)])) := Same.new (Same.refl _) hb
    walk_at "z"
    refine z_cut (fun σ' H' => σ' = [some (.ref p), some (.str key), some (.str Z.line.now), some (.int Z.line.caret), some (.int (cutRange Z.line key).1), some (.int (cutRange Z.line key).2), none] ∧ Same H H') ?_ ?_
    · simp only [CUTS, List.mem_cons, List.not_mem_nil, or_false] at hk
      rcases hk with rfl | rfl | rfl | rfl | rfl
      · walk_at "z"
        refine ⟨_, _, rfl, hx, fun _ _ H2 s2 => ?_, fun z => (by rw [ok] at z; cases z), fun _ z => absurd pl z⟩
        walk_at "z"
        exact ⟨rfl, Same.trans s1 s2⟩
      · walk_at "z"
        refine ⟨_, _, rfl, hx, fun _ _ H2 s2 => ?_, fun z => (by rw [ok] at z; cases z), fun _ z => absurd pl z⟩
        walk_at "z"
        exact ⟨rfl, Same.trans s1 s2⟩
      · walk_at "z"
        exact ⟨rfl, s1⟩
      · walk_at "z"
        exact ⟨rfl, s1⟩
      · walk_at "z"
        exact ⟨rfl, s1⟩
    clear s1 hb ho hol
    rintro σ' H1 ⟨rfl, s1⟩
    have hd := h.same s1
    have m1 : Mq H H1 p A A := Mq.same s1
    unfold HS.doCut at k
    dsimp only at k
    generalize (cutRange Z.line key).1 = f at *
    generalize (cutRange Z.line key).2 = l at *
    have ho := hd.ob
    walk_at "z"
    have hd2 := hd.put_cut (decide (f < l))
    have m2 := m1.trans (hd.mvp (.ins (He.ga K "Hand") A.dx (putF "last_cut" (.bl (decide (f < l))) (handF A Z.cut Z.times))))
    generalize upd H1 p (.ins (He.ga K "Hand") A.dx (putF "last_cut" (.bl (decide (f < l))) (handF A Z.cut Z.times))) = H2 at hd2 m2 ⊢
    refine ite_b (fun h1 => ?_) (fun h1 => ?_)
    · have h1' : f = l := by simpa using h1
      rw [if_pos h1'] at k
      walk_at "z"
      have : decide (f < l) = false := decide_eq_false (by omega)
      rw [this] at hd2
      exact k _ A hd2 m2
    have h1' : ¬ f = l := by simpa using h1
    rw [if_neg h1'] at k
    walk_at "z"
    clear ho
    have ho := hd2.ob
    obtain ⟨dr, hor⟩ := hd2.ri.ob
    have ec : cutS Z.line.now (some f) (some l) = subS Z.line.now f l := by rw [cutS_eq, cutL_mid _ r0 (by omega)]; rfl
    have so : okText (subS Z.line.now f l) = true := sub_ok ok
    have s4 := okText_len so
    have le : (Str.ofString "").length = 0 := rfl
    refine z_cut (fun σ' H' => ∃ A', σ' = [some (.ref p), some (.str key), some (.str Z.line.now), some (.int Z.line.caret), some (.int f), some (.int l), some (.bl Z.cut)] ∧ HandAt K H' p A' { Z with cut := decide (f < l), ring := ⟨if Z.cut then joinR 10 (subS Z.line.now f l) (decide (key ∈ (["rubword", "cutstart"] : List Str))) Z.ring.ts else pushR 10 (subS Z.line.now f l) Z.ring.ts, 0⟩ } ∧ Mq H H' p A A') ?_ ?_
    · cases hc : Z.cut with
      | true =>
        walk_at "z"
        rw [ec]
        walk_at "z"
        intro t1 ht1
        walk_at "z"
        have ej : (if false = true then !inV (V.str key) [V.str "rubword", V.str "cutstart"] else inV (V.str key) [V.str "rubword", V.str "cutstart"]) = decide (key ∈ (["rubword", "cutstart"] : List Str)) := inV_str (ys := ["rubword", "cutstart"])
        rw [ej]
        have s3 := Same.new (Same.refl H2) ht1 (o := .tup [.str "rubword", .str "cutstart"])
        have hd3 := hd2.same s3
        refine ⟨A.pr, A.rl, 10, Z.ring.spot, Z.ring.ts, _, _, rfl, hd3.ri, by rw [sizeLine_eq]; omega, by have := hO.ri.l; omega, by decide, fun t ht => (by have := okText_len (hO.ri.t t ht); omega), fun _ H' l' hl' R' f' => ?_, fun z => (by rw [so] at z; cases z)⟩
        obtain ⟨a, bb⟩ := hd3.ringed (r := ⟨joinR 10 (subS Z.line.now f l) (decide (key ∈ (["rubword", "cutstart"] : List Str))) Z.ring.ts, 0⟩) (f'.mono (by simp [HA.fR])) R' ((nw_nil.or hl' (by simp [HA.fR])).old (by simp [HA.fR]))
        walk_at "z"
        exact ⟨_, rfl, a, (m2.trans (Mq.same s3)).trans bb⟩
      | false =>
        walk_at "z"
        rw [ec]
        walk_at "z"
        refine ⟨A.pr, A.rl, 10, Z.ring.spot, Z.ring.ts, _, rfl, hd2.ri, by rw [sizeLine_eq]; omega, by have := hO.ri.l; omega, by decide, fun _ H' l' hl' R' f' => ?_, fun z => (by rw [so] at z; cases z)⟩
        obtain ⟨a, bb⟩ := hd2.ringed (r := ⟨pushR 10 (subS Z.line.now f l) Z.ring.ts, 0⟩) (f'.mono (by simp [HA.fR])) R' ((nw_nil.or hl' (by simp [HA.fR])).old (by simp [HA.fR]))
        walk_at "z"
        exact ⟨_, rfl, a, m2.trans bb⟩
    clear hd2 m2 ho hor
    rintro σ' H3 ⟨A3, rfl, hd3, m3⟩
    have ho := hd3.ob
    obtain ⟨dl, hol⟩ := hd3.li.ob
    walk_at "z"
    refine hand_change hd3 hL hn r0 r1 r2 empty_ok (by rw [le]; show (Z.line.now.length : Int) - _ + _ ≤ _; omega) fun H' A' h' m' => ?_
    walk_at "z"
    exact k H' A' h' (m3.trans m')
end

theorem sc_Hand_yank : FnScope ["self", "key", "first", "last", "text"] ["self", "key"] (defScope s_Hand_yank) := ⟨rfl, rfl, rfl, by decide +kernel, rfl, by decide +kernel, by decide +kernel⟩
section
variable {P : Program} {w : World} {K : PySem.W.Frag} {mg : Str → Option Value} {base : Heap}
def sp_Hand_yank (K : PySem.W.Frag) : Sp := fun vs H Q _ => ∃ (p : Addr) (A : HA) (Z : HS) (key : Str), vs = [.ref p, .str key] ∧ HandAt K H p A Z ∧ Z.Ok ∧ Z.n ≤ 90000 ∧ key ∈ (["yank", "pop"] : List Str) ∧ ∀ H' A', HandAt K H' p A' (Z.doYank key) → Mq H H' p A A' → Q .non H'
theorem m_Hand_yank (T : Tx K mg) : Mt P w K mg base (He.ga K "Hand") "yank" 5 ["self", "key"] (sp_Hand_yank K) := by
  obtain ⟨fd, F⟩ := T.c.d.def_ 69 (d := d_Hand_yank) rfl
  refine ⟨_, fd, F.ok (CX := L2.CX P w) sc_Hand_yank (fun vs H Q E h => ?len) (fun cdv A outer s H vs Q E hr h => ?body), T.me_Hand_yank, T.cl_Hand, F.bindsN fun _ _ _ _ _ _ us hl => match us, hl with | [_, _], _ => rfl⟩
  case len => obtain ⟨p, A, Z, key, rfl, h, hO, hn, hk, k⟩ := h; rfl
  case body =>
    obtain ⟨p, A, Z, key, rfl, h, hO, hn, hk, k⟩ := h
    refine ⟨_, (Evl.pss_cut (ps_if (pt_cmpR op_eq (pv 1) pe_str (nomark _)) (pss_cons (ps_expr (pe_mt0 (pe_get T.cl_Hand T.na_Hand_ring (pv 0)) (m_Ring_newest T) (hr.mono (by decide)) tkOf))
      (pss_one (ps_put T.cl_Hand T.na_Hand_yanked (pv 0) (pe_tup (pa_cons (pe_mt0 (pe_get T.cl_Hand T.na_Hand_line (pv 0)) (m_Line_at T) (hr.mono (by decide)) tkOf) (pa_cons (pe_mt0 (pe_get T.cl_Hand T.na_Hand_line (pv 0)) (m_Line_at T) (hr.mono (by decide)) tkOf) pa_nil)))))) pss_nil)
      (pss_cons (ps_if (pt_cmpR op_isNon (pe_get T.cl_Hand T.na_Hand_yanked (pv 0)) pe_non (nomark _)) (pss_one ps_retN) pss_nil)
      (Evl.pss_cut (ps_if (pt_cmpR op_eq (pv 1) pe_str (nomark _)) (pss_one (ps_expr (pe_mt0 (pe_get T.cl_Hand T.na_Hand_ring (pv 0)) (m_Ring_turn T) (hr.mono (by decide)) tkOf))) pss_nil)
      (pss_cons (ps_asg (pe_get T.cl_Hand T.na_Hand_yanked (pv 0)) (pg_tupK (K := K) (n := 2) rfl rfl (pgs_cons (pg_name (i := 2) sc_Hand_yank.nd rfl (Or.inl rfl)) (pgs_cons (pg_name (i := 3) sc_Hand_yank.nd rfl (Or.inl rfl)) pgs_nil))))
      (pss_cons (ps_set (i := 4) sc_Hand_yank.nd rfl (Or.inl rfl) (pe_mt0 (pe_get T.cl_Hand T.na_Hand_ring (pv 0)) (m_Ring_meant T) (hr.mono (by decide)) tkOf))
      (pss_one (ps_if (PW.pt (pw_and (pt_cmpR op_le (pe_op op_add (pe_op op_sub (pe_callB (call_lnK (K := K) rfl) rfl T.n_len boot_len (pa_cons (pe_mt0 (pe_get T.cl_Hand T.na_Hand_line (pv 0)) (m_Line_text T) (hr.mono (by decide)) tkOf) pa_nil)) (pe_op op_sub (pv 3) (pv 2))) (pe_callB (call_lnK (K := K) rfl) rfl T.n_len boot_len (pa_cons (pv 4) pa_nil))) (pe_gcon T.c_MOST_TEXT) (nomark _)) (pw_and1 (PW.pt (pw_or (pt_cmpR op_ne (pv 4) pe_str (nomark _)) (pw_or1 (pt_cmpR op_lt (pv 2) (pv 3) (nomark _)))))))) (pss_cons (ps_expr (pe_mt (pe_get T.cl_Hand T.na_Hand_line (pv 0)) (m_Line_change T) (hr.mono (by decide)) tkOf (pa_cons (pv 2) (pa_cons (pv 3) (pa_cons (pv 4) (pa_cons (pe_op op_add (pv 2) (pe_callB (call_lnK (K := K) rfl) rfl T.n_len boot_len (pa_cons (pv 4) pa_nil))) pa_nil))))))
      (pss_one (ps_put T.cl_Hand T.na_Hand_yanked (pv 0) (pe_tup (pa_cons (pv 2) (pa_cons (pe_op op_add (pv 2) (pe_callB (call_lnK (K := K) rfl) rfl T.n_len boot_len (pa_cons (pv 4) pa_nil))) pa_nil)))))) pss_nil))))))), ?_⟩
    have hL := hO.li
    have pl := hL.ok.caret
    have l4 := okText_len hL.ok.text
    unfold LineS.place at pl
    refine z_cut (fun σ' H' => σ' = [some (.ref p), some (.str key), none, none, none] ∧ ∃ (A1 : HA) (Z1 : HS), HandAt K H' p A1 Z1 ∧ Mq H H' p A A1 ∧ Z1.line = Z.line ∧ Z1.n = Z.n ∧ (Z1.yank = none → Z.doYank key = Z1) ∧ ∀ y, Z1.yank = some y → 0 ≤ y.1 ∧ y.1 ≤ y.2 ∧ y.2 ≤ Z.line.now.length ∧ (if key = "pop" then Z1.turned else Z1).putYank y.1 y.2 = Z.doYank key ∧ ROk (if key = "pop" then Z1.turned else Z1).ring) ?_ ?_
    · have ho := h.ob
      obtain ⟨dl, hol⟩ := h.li.ob
      obtain ⟨dr, hor⟩ := h.ri.ob
      simp only [List.mem_cons, List.not_mem_nil, or_false] at hk
      rcases hk with rfl | rfl
      · walk_at "z"
        refine ⟨A.pr, A.rl, 10, Z.ring.spot, Z.ring.ts, rfl, h.ri, fun H1 R1 f1 => ?_⟩
        obtain ⟨h1, m1⟩ := h.ringed (r := ⟨Z.ring.ts, 0⟩) (f1.mono (by simp [HA.fR])) R1 nw_refl
        clear ho hol hor
        have ho := h1.ob
        obtain ⟨dl, hol⟩ := h1.li.ob
        walk_at "z"
        refine ⟨A.pl, A.lb, A.ll, Z.line, rfl, h1.li, ?_⟩
        walk_at "z"
        refine ⟨A.pl, A.lb, A.ll, Z.line, rfl, h1.li, ?_⟩
        walk_at "z"
        intro r hr
        have s2 := Same.new (Same.refl H1) hr (o := .tup [.int Z.line.caret, .int Z.line.caret])
        have h2 := h1.same s2
        clear ho hol
        have ho := h2.ob
        walk_at "z"
        have h3 := h2.put_yank (v := .ref r) (y := some (Z.line.caret, Z.line.caret)) ⟨r, rfl, upd_same⟩
        refine ⟨rfl, _, _, h3, (m1.trans (Mq.same s2)).trans (h2.mvq _ rfl rfl), rfl, rfl, (fun z => (by have z : some (Z.line.caret, Z.line.caret) = none := z; cases z)), fun y z => ?_⟩
        have z : some (Z.line.caret, Z.line.caret) = some y := z
        cases z
        exact ⟨pl.1, Int.le_refl _, pl.2, rfl, ROk.zero hO.ri⟩
      · walk_at "z"
        refine ⟨rfl, A, Z, h, Mq.refl, rfl, rfl, fun z => ?_, fun y z => ?_⟩
        · unfold HS.doYank; rw [if_neg (by decide), z]
        · obtain ⟨y0, y1, y2⟩ := hO.ya y z
          exact ⟨y0, y1, y2, by rw [if_pos rfl]; unfold HS.doYank; rw [if_neg (by decide), z], by rw [if_pos rfl]; exact hO.turned.ri⟩
    rintro σ' H1 ⟨rfl, A1, Z1, h1, m1, e1, e2, en, ey⟩
    have ho := h1.ob
    cases hy : Z1.yank with
    | none =>
      have q : YaAt H1 A1.yv none := hy ▸ h1.ya
      have q' : A1.yv = .non := q
      unfold handF at ho
      rw [q'] at ho
      rw [en hy] at k
      walk_at "z"
      exact k _ A1 h1 m1
    | some y =>
      obtain ⟨y0, y1, y2, y3, y4⟩ := ey y hy
      have q : YaAt H1 A1.yv (some y) := hy ▸ h1.ya
      obtain ⟨r, q1, q2⟩ := q
      unfold handF at ho
      rw [q1] at ho
      walk_at "z"
      refine z_cut (fun σ' H' => σ' = [some (.ref p), some (.str key), none, none, none] ∧ ∃ (A2 : HA), HandAt K H' p A2 (if key = "pop" then Z1.turned else Z1) ∧ Mq H H' p A A2) ?_ ?_
      · obtain ⟨dr, hor⟩ := h1.ri.ob
        walk_at "z"
        refine ite_b (fun g => ?_) (fun g => ?_)
        · have g' : key = "pop" := by simpa using g
          rw [if_pos g']
          walk_at "z"
          refine ⟨A1.pr, A1.rl, 10, Z1.ring.spot, Z1.ring.ts, rfl, h1.ri, fun H2 R2 f2 => ?_⟩
          obtain ⟨h2, m2⟩ := h1.ringed (r := Z1.turned.ring) (f2.mono (by simp [HA.fR])) R2 nw_refl
          walk_at "z"
          exact ⟨rfl, A1, h2, m1.trans m2⟩
        · have g' : ¬ key = "pop" := by simpa using g
          rw [if_neg g']
          walk_at "z"
          exact ⟨rfl, A1, h1, m1⟩
      have e3 : (if key = "pop" then Z1.turned else Z1).line = Z.line := by split <;> exact e1
      have e4 : (if key = "pop" then Z1.turned else Z1).n = Z.n := by split <;> exact e2
      have e5 : (if key = "pop" then Z1.turned else Z1).yank = some y := by split <;> exact hy
      generalize (if key = "pop" then Z1.turned else Z1) = Z2 at *
      clear h1 m1 ho q1 q2 hy e1 e2 en ey r A1 H1
      rintro σ' H2 ⟨rfl, A2, h2, m2⟩
      have hL2 : LOk Z2.line Z2.n := by rw [e3, e4]; exact hL
      have ho := h2.ob
      obtain ⟨r, q1, q2⟩ : YaAt H2 A2.yv (some y) := e5 ▸ h2.ya
      unfold handF at ho
      rw [q1] at ho
      obtain ⟨dr, hor⟩ := h2.ri.ob
      obtain ⟨dl, hol⟩ := h2.li.ob
      walk_at "z"
      refine ⟨A2.pr, A2.rl, 10, Z2.ring.spot, Z2.ring.ts, rfl, h2.ri, y4.s0, y4.s1, ?_⟩
      have to := HS.meant_ok (Z := Z2) y4
      rw [show HS.putYank.meantR0 Z2.ring.ts Z2.ring.spot = meantR Z2.ring.ts Z2.ring.spot from rfl] at to
      have t4 := okText_len to
      rw [← y3] at k
      unfold HS.putYank at k
      dsimp only at k
      rw [show HS.putYank.meantR0 Z2.ring.ts Z2.ring.spot = meantR Z2.ring.ts Z2.ring.spot from rfl, e3] at k
      generalize meantR Z2.ring.ts Z2.ring.spot = t at *
      have ht : t.length ≤ sizeLine := by rw [sizeLine_eq]; omega
      have hx : Z.line.now.length ≤ sizeLine := by rw [sizeLine_eq]; omega
      walk_at "z"
      refine ⟨A2.pl, A2.lb, A2.ll, Z2.line, rfl, h2.li, ?_⟩
      rw [e3]
      walk_at "z"
      have good : (Z.line.now.length : Int) - (y.2 - y.1) + t.length ≤ 400 → (t ≠ "" ∨ y.1 < y.2) → tSeq (tDrop (tMt (He.ga K "Line") "change" (sp_Line_change K) (WE fun cls d x H => E cls d H) (tGet (He.ga K "Hand") (tVar 0) "line") (tCons (tVar 2) (tCons (tVar 3) (tCons (tVar 4) (tCons (tOp (rI0 fun i j => V.int (i + j)) (tVar 2) (tCB (rLn K) (tCons (tVar 4) tNil))) tNil)))))) (tPut (He.ga K "Hand") (tVar 0) (tTup (tCons (tVar 2) (tCons (tOp (rI0 fun i j => V.int (i + j)) (tVar 2) (tCB (rLn K) (tCons (tVar 4) tNil))) tNil))) "yanked") { nx := fun x H' => Q V.non H', rt := Q } [some (.ref p), some (.str key), some (.int y.1), some (.int y.2), some (.str t)] H2 := by
        intro c1 c2
        rw [if_pos ⟨c1, c2⟩] at k
        walk_at "z"
        refine hand_change h2 hL2 (by rw [e4]; exact hn) y0 y1 (by rw [e3]; exact y2) to (by rw [e3]; exact c1) fun H3 A3 h3 m3 => ?_
        clear ho q1 q2 hor hol
        have ho := h3.ob
        walk_at "z"
        intro r3 hr3
        have s4 := Same.new (Same.refl H3) hr3 (o := .tup [.int y.1, .int (y.1 + t.length)])
        have h4 := h3.same s4
        clear ho
        have ho := h4.ob
        walk_at "z"
        have h5 := h4.put_yank (v := .ref r3) (y := some (y.1, y.1 + t.length)) ⟨r3, rfl, upd_same⟩
        rw [← e3] at k
        exact k _ _ h5 (((m2.trans m3).trans (Mq.same s4)).trans (h4.mvq _ rfl rfl))
      refine ite_b (fun g1 => ?_) (fun g1 => ?_)
      · have g1' := of_decide_eq_true g1
        walk_at "z"
        refine ite_b (fun g2 => ?_) (fun g2 => ?_)
        · have g2' : ¬ t = "" := by simpa using g2
          exact good g1' (.inl g2')
        · have g2' : t = "" := by simpa using g2
          walk_at "z"
          refine ite_b (fun g3 => ?_) (fun g3 => ?_)
          · have g3' := of_decide_eq_true g3
            exact good g1' (.inr g3')
          · have g3' := of_decide_eq_false g3
            rw [if_neg (by rintro ⟨_, z | z⟩; exact z g2'; exact g3' z)] at k
            walk_at "z"
            exact k _ A2 h2 m2
      · have g1' := of_decide_eq_false g1
        rw [if_neg (fun z => g1' z.1)] at k
        walk_at "z"
        exact k _ A2 h2 m2
end

theorem sc_Hand_recase : FnScope ["self", "key", "text", "end", "at"] ["self", "key"] (defScope s_Hand_recase) := ⟨rfl, rfl, rfl, by decide +kernel, rfl, by decide +kernel, by decide +kernel⟩
section
variable {P : Program} {w : World} {K : PySem.W.Frag} {mg : Str → Option Value} {base : Heap}
def sp_Hand_recase (K : PySem.W.Frag) : Sp := fun vs H Q _ => ∃ (p : Addr) (A : HA) (Z : HS) (key : Str), vs = [.ref p, .str key] ∧ HandAt K H p A Z ∧ LOk Z.line Z.n ∧ Z.n ≤ 90000 ∧ ∀ H' A', HandAt K H' p A' { Z with line := Z.line.recase key } → Mq H H' p A A' → Q .non H'
theorem m_Hand_recase (T : Tx K mg) : Mt P w K mg base (He.ga K "Hand") "recase" 5 ["self", "key"] (sp_Hand_recase K) := by
  obtain ⟨fd, F⟩ := T.c.d.def_ 70 (d := d_Hand_recase) rfl
  refine ⟨_, fd, F.ok (CX := L2.CX P w) sc_Hand_recase (fun vs H Q E h => ?len) (fun cdv A outer s H vs Q E hr h => ?body), T.me_Hand_recase, T.cl_Hand, F.bindsN fun _ _ _ _ _ _ us hl => match us, hl with | [_, _], _ => rfl⟩
  case len => obtain ⟨p, A, Z, key, rfl, h, hL, hn, k⟩ := h; rfl
  case body =>
    obtain ⟨p, A, Z, key, rfl, h, hL, hn, k⟩ := h
    refine ⟨_, (pss_cons (ps_asg (pe_fn (f_recased T) (hr.mono (by decide)) tkOf (pa_cons (pe_mt0 (pe_get T.cl_Hand T.na_Hand_line (pv 0)) (m_Line_text T) (hr.mono (by decide)) tkOf) (pa_cons (pe_mt0 (pe_get T.cl_Hand T.na_Hand_line (pv 0)) (m_Line_at T) (hr.mono (by decide)) tkOf) (pa_cons (pv 1) pa_nil)))) (pg_tupK (K := K) (n := 2) rfl rfl (pgs_cons (pg_name (i := 2) sc_Hand_recase.nd rfl (Or.inl rfl)) (pgs_cons (pg_name (i := 3) sc_Hand_recase.nd rfl (Or.inl rfl)) pgs_nil))))
      (pss_one (ps_if (pt_cmpR op_eq (pv 2) (pe_mt0 (pe_get T.cl_Hand T.na_Hand_line (pv 0)) (m_Line_text T) (hr.mono (by decide)) tkOf) (nomark _)) (pss_one (ps_expr (pe_mt (pe_get T.cl_Hand T.na_Hand_line (pv 0)) (m_Line_go T) (hr.mono (by decide)) tkOf (pa_cons (pv 3) pa_nil)))) (pss_cons (ps_set (i := 4) sc_Hand_recase.nd rfl (Or.inl rfl) (pe_mt0 (pe_get T.cl_Hand T.na_Hand_line (pv 0)) (m_Line_at T) (hr.mono (by decide)) tkOf))
      (pss_one (ps_expr (pe_mt (pe_get T.cl_Hand T.na_Hand_line (pv 0)) (m_Line_change T) (hr.mono (by decide)) tkOf (pa_cons (pv 4) (pa_cons (pv 3) (pa_cons (pe_slice sl_str (pv 2) (po_some (pv 4)) (po_some (pv 3))) (pa_cons (pv 3) pa_nil))))))))))), ?_⟩
    have ho := h.ob
    obtain ⟨dl, hol⟩ := h.li.ob
    have ok := hL.ok.text
    have pl := hL.ok.caret
    have l4 := okText_len ok
    have e := len_tl Z.line.now
    have hx : Z.line.now.length < sizeLine := by rw [sizeLine_eq]; omega
    walk_at "z"
    refine ⟨A.pl, A.lb, A.ll, Z.line, rfl, h.li, ?_⟩
    walk_at "z"
    refine ⟨A.pl, A.lb, A.ll, Z.line, rfl, h.li, ?_⟩
    walk_at "z"
    refine ⟨_, _, _, rfl, hx, fun _ _ H1 r hr s1 h1 => ?_, fun z => (by rw [ok] at z; cases z), fun _ z => absurd pl z⟩
    have hd := h.same s1
    have ho1 := hd.ob
    obtain ⟨dl1, hol1⟩ := hd.li.ob
    have m1 : Mq H H1 p A A := Mq.same s1
    unfold LineS.place at pl
    have a1 : Z.line.caret.toNat ≤ (tl Z.line.now).length := by omega
    have w2 := wEnd_le a1
    have w3 := wBeg_le a1
    have rl : (S (recL key (tl Z.line.now) Z.line.caret.toNat)).length = Z.line.now.length := by rw [len_S, len_recL a1, e]
    have rok : okText (S (recL key (tl Z.line.now) Z.line.caret.toNat)) = true := okText_of (by rw [tl_S]; exact recL_ok a1 (okText_all ok)) (by omega)
    have hrx : (S (recL key (tl Z.line.now) Z.line.caret.toNat)).length ≤ sizeLine := by rw [sizeLine_eq]; omega
    unfold LineS.recase at k
    generalize S (recL key (tl Z.line.now) Z.line.caret.toNat) = rr at *
    generalize wEnd (tl Z.line.now) Z.line.caret.toNat = en at *
    walk_at "z"
    refine ⟨A.pl, A.lb, A.ll, Z.line, rfl, hd.li, ?_⟩
    walk_at "z"
    refine ite_b (fun g1 => ?_) (fun g1 => ?_)
    · have g1' : rr = Z.line.now := by simpa using g1
      rw [if_pos g1'] at k
      walk_at "z"
      refine ⟨A.pl, A.lb, A.ll, Z.line, _, rfl, hd.li, l4, fun _ H' R f => ?_, fun z => absurd ⟨by omega, by omega⟩ z⟩
      obtain ⟨a, b⟩ := hd.line (f.mono (by simp [HA.fL])) R nw_refl
      walk_at "z"
      exact k _ _ a (m1.trans b)
    · have g1' : ¬ rr = Z.line.now := by simpa using g1
      rw [if_neg g1'] at k
      walk_at "z"
      refine ⟨A.pl, A.lb, A.ll, Z.line, rfl, hd.li, ?_⟩
      walk_at "z"
      have ec : cutS rr (some Z.line.caret) (some ((en : Nat) : Int)) = subS rr Z.line.caret (en : Nat) := by
        rw [cutS_eq, cutL_mid _ pl.1 (by omega)]; rfl
      rw [ec]
      have sl := sub_len (x := rr) (f := Z.line.caret) (l := (en : Nat)) pl.1 (by omega) (by omega)
      refine hand_change hd hL hn pl.1 (by omega) (by omega) (sub_ok rok) (by omega) fun H' A' h' m' => ?_
      walk_at "z"
      exact k H' A' h' (m1.trans m')
end

theorem sc_Hand_swap : FnScope ["self", "text", "at"] ["self"] (defScope s_Hand_swap) := ⟨rfl, rfl, rfl, by decide +kernel, rfl, by decide +kernel, by decide +kernel⟩
section
variable {P : Program} {w : World} {K : PySem.W.Frag} {mg : Str → Option Value} {base : Heap}
def sp_Hand_swap (K : PySem.W.Frag) : Sp := fun vs H Q _ => ∃ (p : Addr) (A : HA) (Z : HS), vs = [.ref p] ∧ HandAt K H p A Z ∧ LOk Z.line Z.n ∧ Z.n ≤ 90000 ∧ ∀ H' A', HandAt K H' p A' { Z with line := Z.line.swap } → Mq H H' p A A' → Q .non H'
theorem m_Hand_swap (T : Tx K mg) : Mt P w K mg base (He.ga K "Hand") "swap" 5 ["self"] (sp_Hand_swap K) := by
  obtain ⟨fd, F⟩ := T.c.d.def_ 71 (d := d_Hand_swap) rfl
  refine ⟨_, fd, F.ok (CX := L2.CX P w) sc_Hand_swap (fun vs H Q E h => ?len) (fun cdv A outer s H vs Q E hr h => ?body), T.me_Hand_swap, T.cl_Hand, F.bindsN fun _ _ _ _ _ _ us hl => match us, hl with | [_], _ => rfl⟩
  case len => obtain ⟨p, A, Z, rfl, h, hL, hn, k⟩ := h; rfl
  case body =>
    obtain ⟨p, A, Z, rfl, h, hL, hn, k⟩ := h
    refine ⟨_, (pss_cons (ps_set (i := 1) sc_Hand_swap.nd rfl (Or.inl rfl) (pe_mt0 (pe_get T.cl_Hand T.na_Hand_line (pv 0)) (m_Line_text T) (hr.mono (by decide)) tkOf))
      (pss_cons (ps_set (i := 2) sc_Hand_swap.nd rfl (Or.inl rfl) (pe_callB (call_mn rfl) rfl T.n_min (by decide +kernel) (pa_cons (pe_mt0 (pe_get T.cl_Hand T.na_Hand_line (pv 0)) (m_Line_at T) (hr.mono (by decide)) tkOf) (pa_cons (pe_op op_sub (pe_callB (call_lnK (K := K) rfl) rfl T.n_len boot_len (pa_cons (pv 1) pa_nil)) pe_int) pa_nil))))
      (pss_one (ps_if (pt_cmpR op_gt (pv 2) pe_int (nomark _)) (pss_one (ps_expr (pe_mt (pe_get T.cl_Hand T.na_Hand_line (pv 0)) (m_Line_change T) (hr.mono (by decide)) tkOf (pa_cons (pe_op op_sub (pv 2) pe_int) (pa_cons (pe_op op_add (pv 2) pe_int) (pa_cons (pe_op op_addS (pe_ix ix_str (pv 1) (pv 2) (fun _ _ => rfl)) (pe_ix ix_str (pv 1) (pe_op op_sub (pv 2) pe_int) (fun _ _ => rfl))) (pa_cons (pe_op op_add (pv 2) pe_int) pa_nil))))))) pss_nil)))), ?_⟩
    have ho := h.ob
    obtain ⟨dl, hol⟩ := h.li.ob
    have ok := hL.ok.text
    have l4 := okText_len ok
    have e := len_tl Z.line.now
    have hx : Z.line.now.length ≤ sizeLine := by rw [sizeLine_eq]; omega
    walk_at "z"
    refine ⟨A.pl, A.lb, A.ll, Z.line, rfl, h.li, ?_⟩
    walk_at "z"
    refine ⟨A.pl, A.lb, A.ll, Z.line, rfl, h.li, ?_⟩
    walk_at "z"
    simp only [min_ite]
    have ea : min Z.line.caret ((Z.line.now.length : Int) - 1) = Z.line.swapAt := rfl
    rw [ea]
    have a2 : Z.line.swapAt ≤ (Z.line.now.length : Int) - 1 := by rw [← ea]; omega
    have es : Z.line.swap = if 0 < Z.line.swapAt then Z.line.change (Z.line.swapAt - 1) (Z.line.swapAt + 1) (S [(tl Z.line.now).getD Z.line.swapAt.toNat 0, (tl Z.line.now).getD (Z.line.swapAt - 1).toNat 0]) (Z.line.swapAt + 1) else Z.line := rfl
    rw [es] at k
    generalize Z.line.swapAt = s0 at *
    refine ite_b (fun h1 => ?_) (fun h1 => ?_)
    · have h1' : 0 < s0 := of_decide_eq_true h1
      rw [if_pos h1'] at k
      have g0 : atI (tl Z.line.now) s0 = some ((tl Z.line.now).getD s0.toNat 0) := by
        rw [show s0 = ((s0.toNat : Nat) : Int) by omega]
        refine atI_nat ?_
        rw [show (((s0.toNat : Nat) : Int)).toNat = s0.toNat by omega, List.getD_eq_getElem?_getD, List.getElem?_eq_getElem (by omega)]; rfl
      have g1 : atI (tl Z.line.now) (s0 - 1) = some ((tl Z.line.now).getD (s0 - 1).toNat 0) := by
        rw [show s0 - 1 = (((s0 - 1).toNat : Nat) : Int) by omega]
        refine atI_nat ?_
        rw [show ((((s0 - 1).toNat : Nat) : Int)).toNat = (s0 - 1).toNat by omega, List.getD_eq_getElem?_getD, List.getElem?_eq_getElem (by omega)]; rfl
      have ls : (S [(tl Z.line.now).getD s0.toNat 0, (tl Z.line.now).getD (s0 - 1).toNat 0]).length = 2 := rfl
      walk_at "z"
      refine z_ixS hx g0 ?_
      walk_at "z"
      refine z_ixS hx g1 ?_
      refine z_addS (by show 1 + 1 ≤ _; decide) ?_
      walk_at "z"
      refine hand_change (new := S [(tl Z.line.now).getD s0.toNat 0, (tl Z.line.now).getD (s0 - 1).toNat 0]) h hL hn (by omega) (by omega) (by omega) (two_ok (okText_all ok) (by omega) (by omega)) (by rw [ls]; omega) fun H' A' h' m' => ?_
      walk_at "z"
      exact k H' A' h' m'
    · have h1' : ¬ 0 < s0 := of_decide_eq_false h1
      rw [if_neg h1'] at k
      walk_at "z"
      exact k _ A h Mq.refl
end

theorem sc_Hand_load : FnScope ["self", "text"] ["self", "text"] (defScope s_Hand_load) := ⟨rfl, rfl, rfl, by decide +kernel, rfl, by decide +kernel, by decide +kernel⟩
section
variable {P : Program} {w : World} {K : PySem.W.Frag} {mg : Str → Option Value} {base : Heap}
def sp_Hand_load (K : PySem.W.Frag) : Sp := fun vs H Q _ => ∃ (p : Addr) (A : HA) (Z : HS) (x : Str), vs = [.ref p, .str x] ∧ HandAt K H p A Z ∧ okText x = true ∧ ∀ H' A', A'.sv = A.sv ∧ A'.sfp = A.sfp → HandAt K H' p A' { Z with line := LineS.fresh x } → Mq H H' p A A' → Q .non H'
theorem m_Hand_load (T : Tx K mg) : Mt P w K mg base (He.ga K "Hand") "load" 5 ["self", "text"] (sp_Hand_load K) := by
  obtain ⟨fd, F⟩ := T.c.d.def_ 74 (d := d_Hand_load) rfl
  refine ⟨_, fd, F.ok (CX := L2.CX P w) sc_Hand_load (fun vs H Q E h => ?len) (fun cdv A outer s H vs Q E hr h => ?body), T.me_Hand_load, T.cl_Hand, F.bindsN fun _ _ _ _ _ _ us hl => match us, hl with | [_, _], _ => rfl⟩
  case len => obtain ⟨p, A, Z, x, rfl, h, ok, k⟩ := h; rfl
  case body =>
    obtain ⟨p, A, Z, x, rfl, h, ok, k⟩ := h
    refine ⟨_, (pss_one (ps_put T.cl_Hand T.na_Hand_line (pv 0) (pe_mk (mk_Line T) (hr.mono (by decide)) tkOf (pa_cons (pv 1) pa_nil)))), ?_⟩
    have l4 := okText_len ok
    walk_at "z"
    intro pl dx hpl hdx hne
    have s0 : Same H (upd (upd H dx (.own pl)) pl (.ins (He.ga K "Line") dx [])) := fun b o e => by rw [upd_ne (ne_of_none e hpl), upd_ne (ne_of_none e hdx)]; exact e
    refine ⟨pl, dx, x, rfl, upd_same, by rw [sizeLine_eq]; omega, fun _ H2 lb ll hlb hll R f2 => ⟨rfl, ?_⟩, fun z => (by rw [ok] at z; cases z)⟩
    have s2 : Same H H2 := Fr.drop s0 f2 (by simpa using hpl)
    have hlb0 := fresh_of s0 hlb
    have hll0 := fresh_of s0 hll
    have h2 := h.same s2
    have ho := h2.ob
    walk_at "z"
    have nx : ∀ y ∈ [pl, lb, ll], y ∉ A.X p := fun y hy => by
      simp only [List.mem_cons, List.not_mem_nil, or_false] at hy
      rcases hy with rfl | rfl | rfl
      · exact h.fresh hpl
      · exact h.fresh hlb0
      · exact h.fresh hll0
    refine k _ { A with pl := pl, lb := lb, ll := ll } ⟨rfl, rfl⟩ (h2.put_line R nx) ⟨⟨Fr.upd (Fr.same s2) h.p_mem, fun y hy => ?_⟩, rfl⟩
    rcases fl_set (i := 1) (Bs := A.bs p) (F' := [pl, lb, ll]) hy with z | z
    · exact .inl z
    · simp only [List.mem_cons, List.not_mem_nil, or_false] at z
      rcases z with rfl | rfl | rfl
      · exact .inr hpl
      · exact .inr hlb0
      · exact .inr hll0
end

theorem sc_Hand_filled : FnScope ["self", "first", "last", "new"] ["self", "first", "last", "new"] (defScope s_Hand_filled) := ⟨rfl, rfl, rfl, by decide +kernel, rfl, by decide +kernel, by decide +kernel⟩
section
variable {P : Program} {w : World} {K : PySem.W.Frag} {mg : Str → Option Value} {base : Heap}
def sp_Hand_filled (K : PySem.W.Frag) : Sp := fun vs H Q _ => ∃ (p : Addr) (A : HA) (Z : HS) (f l : Int) (new : Str), vs = [.ref p, .int f, .int l, .str new] ∧ HandAt K H p A Z ∧ LOk Z.line Z.n ∧ Z.n ≤ 90000 ∧ 0 ≤ f ∧ f ≤ l ∧ l ≤ Z.line.now.length ∧ (tl new).all okc = true ∧ new.length ≤ 1000 ∧ ∀ H' A', A'.cv = A.cv ∧ A'.cfp = A.cfp → HandAt K H' p A' (Z.filled f l new) → Mq H H' p A A' → Q (.bl (Z.fits f l new)) H'
theorem m_Hand_filled (T : Tx K mg) : Mt P w K mg base (He.ga K "Hand") "filled" 5 ["self", "first", "last", "new"] (sp_Hand_filled K) := by
  obtain ⟨fd, F⟩ := T.c.d.def_ 78 (d := d_Hand_filled) rfl
  refine ⟨_, fd, F.ok (CX := L2.CX P w) sc_Hand_filled (fun vs H Q E h => ?len) (fun cdv A outer s H vs Q E hr h => ?body), T.me_Hand_filled, T.cl_Hand, F.bindsN fun _ _ _ _ _ _ us hl => match us, hl with | [_, _, _, _], _ => rfl⟩
  case len => obtain ⟨p, A, Z, f, l, new, rfl, h, hL, hn, h0, h1, h2, ho1, hln, k⟩ := h; rfl
  case body =>
    obtain ⟨p, A, Z, f, l, new, rfl, h, hL, hn, h0, h1, h2, ho1, hln, k⟩ := h
    refine ⟨_, (pss_cons (ps_if (pt_cmpR op_gt (pe_op op_add (pe_op op_sub (pe_callB (call_lnK (K := K) rfl) rfl T.n_len boot_len (pa_cons (pe_mt0 (pe_get T.cl_Hand T.na_Hand_line (pv 0)) (m_Line_text T) (hr.mono (by decide)) tkOf) pa_nil)) (pe_op op_sub (pv 2) (pv 1))) (pe_callB (call_lnK (K := K) rfl) rfl T.n_len boot_len (pa_cons (pv 3) pa_nil))) (pe_gcon T.c_MOST_TEXT) (nomark _)) (pss_one (ps_ret pe_bl)) pss_nil)
      (pss_cons (ps_expr (pe_mt (pe_get T.cl_Hand T.na_Hand_line (pv 0)) (m_Line_change T) (hr.mono (by decide)) tkOf (pa_cons (pv 1) (pa_cons (pv 2) (pa_cons (pv 3) (pa_cons (pe_op op_add (pv 1) (pe_callB (call_lnK (K := K) rfl) rfl T.n_len boot_len (pa_cons (pv 3) pa_nil))) pa_nil))))))
      (pss_one (ps_ret pe_bl)))), ?_⟩
    have ho := h.ob
    obtain ⟨dl, hol⟩ := h.li.ob
    have l4 := okText_len hL.ok.text
    have hx : Z.line.now.length ≤ sizeLine := by rw [sizeLine_eq]; omega
    have hw : new.length ≤ sizeLine := by rw [sizeLine_eq]; omega
    walk_at "z"
    refine ⟨A.pl, A.lb, A.ll, Z.line, rfl, h.li, ?_⟩
    walk_at "z"
    refine ite_b (fun g => ?_) (fun g => ?_)
    · have g' := of_decide_eq_true g
      have ef : Z.fits f l new = false := decide_eq_false (by omega)
      have ez : Z.filled f l new = Z := by unfold HS.filled; rw [if_neg (by rw [ef]; exact Bool.false_ne_true)]
      rw [ef, ez] at k
      walk_at "z"
      exact k _ A ⟨rfl, rfl⟩ h Mq.refl
    · have g' := of_decide_eq_false g
      have ef : Z.fits f l new = true := decide_eq_true (by omega)
      have ez : Z.filled f l new = { Z with line := Z.line.change f l new (f + new.length) } := by unfold HS.filled; rw [if_pos ef]
      rw [ef, ez] at k
      walk_at "z"
      refine hand_change2 h hL hn h0 h1 h2 (okText_of ho1 (by omega)) (by omega) fun H' A' c' h' m' => ?_
      walk_at "z"
      exact k H' A' c' h' m'
end

theorem sc__law_press : FnScope ["state", "key"] ["state", "key"] (defScope s__law_press) := ⟨rfl, rfl, rfl, by decide +kernel, rfl, by decide +kernel, by decide +kernel⟩
section
variable {P : Program} {w : World} {K : PySem.W.Frag} {mg : Str → Option Value} {base : Heap}
def sp_law_press (K : PySem.W.Frag) : Sp := fun vs H Q _ => ∃ (d sb sl lk ls lt : Addr) (kvs : List (Key × V)) (M : LineS) (q : HistS) (ent : List Str) (key : Str), vs = [.ref d, .str key] ∧ S2 H d sb sl lk ls lt kvs M q ent ∧ histK key = true ∧ QOk q ∧ M.Ok 400 ∧ M.before.length ≤ 100000 ∧ M.later.length ≤ 100000 ∧ ent.length ≤ 100000 ∧ ∀ H' sb' sl' lk' ls' kvs', Nw H [d, sb, sl, lk, ls, lt] [d, sb', sl', lk', ls', lt] → S2 H' d sb' sl' lk' ls' lt kvs' (stepL M q ent key).1 (stepL M q ent key).2.1 (stepL M q ent key).2.2 → Ex s2K kvs kvs' → Fr [d, sb, sl, lk, ls, lt] H H' → Q .non H'
theorem f__law_press (T : Tx K mg) : Fn P w K mg base "_law_press" 5 ["state", "key"] (sp_law_press K) := by
  obtain ⟨fd, F⟩ := T.c.d.def_ 100 (d := d__law_press) rfl
  refine ⟨_, fd, F.ok (CX := L2.CX P w) sc__law_press (fun vs H Q E h => ?len) (fun cdv A outer s H vs Q E hr h => ?body), T.g__law_press, F.kp, F.bindsN fun _ _ _ _ _ _ us hl => match us, hl with | [_, _], _ => rfl, FunD.bindsA F fun _ _ _ _ _ _ us hl => match us, hl with | [_, _], _ => rfl⟩
  case len => obtain ⟨d, sb, sl, lk, ls, lt, kvs, M, q, ent, key, rfl, R, hkey, hQ, ok, hbl, hll0, hen, k⟩ := h; rfl
  case body =>
    obtain ⟨d, sb, sl, lk, ls, lt, kvs, M, q, ent, key, rfl, R, hkey, hQ, ok, hbl, hll0, hen, k⟩ := h
    refine ⟨_, (pss_one (ps_if (pt_cmpR (op_inK (K := K) rfl) (pv 1) (pe_tup (pa_cons pe_str (pa_cons pe_str pa_nil))) rfl) (pss_one (ps_expr (pe_fn (f__law_recall T) (hr.mono (by decide)) tkOf (pa_cons (pv 0) (pa_cons (pv 1) pa_nil))))) (pss_one (ps_if (pt_cmpR op_eq (pv 1) pe_str (nomark _)) (pss_one (ps_expr (pe_fn (f__law_enter T) (hr.mono (by decide)) tkOf (pa_cons (pv 0) pa_nil)))) (pss_one (ps_expr (pe_fn (f__law_edit T) (hr.mono (by decide)) tkOf (pa_cons (pv 0) (pa_cons (pv 1) pa_nil))))))))), ?_⟩
    have hor : ∀ {y z : Addr}, (y = z ∨ H y = none) → z ∈ [d, sb, sl, lk, ls, lt] → y ∈ [d, sb, sl, lk, ls, lt] ∨ H y = none := fun h m => h.imp (fun e => by rw [e]; exact m) id
    have hk0 := hkey
    unfold histK at hkey
    rw [Bool.or_eq_true] at hkey
    walk_at "z"
    refine z_inD ["up", "down"] fun H1 s1 => ?_
    have R1 := R.same s1
    unfold stepL at k
    by_cases m1 : key ∈ (["up", "down"] : List Str)
    · rw [decide_eq_true m1]
      rw [if_pos m1] at k
      walk_at "z"
      refine ⟨d, sb, sl, lk, ls, lt, kvs, M, q, ent, key, rfl, R1, by simpa using m1, hQ, ok.text, fun H' sb' sl' kvs' h1 h2 R' x' f' => ?_⟩
      walk_at "z"
      exact k H' sb' sl' lk ls kvs' ((((((nw_nil.old (by simp)).old (by simp)).old (by simp)).any (hor (h2.imp id (fresh_of s1)) (by simp))).any (hor (h1.imp id (fresh_of s1)) (by simp))).old (by simp)) R' x' ((Fr.same s1).trans f')
    rw [decide_eq_false m1]
    rw [if_neg m1] at k
    walk_at "z"
    by_cases m2 : key = "enter"
    · rw [if_pos m2] at k
      subst m2
      walk_at "z"
      refine ⟨d, sb, sl, lk, ls, lt, kvs, M, q, ent, rfl, R1, hQ, ok.text, hen, fun H' sb' sl' lk' ls' kvs' nw' R' x' f' => ?_⟩
      walk_at "z"
      exact k H' sb' sl' lk' ls' kvs' (nw'.same s1) R' x' ((Fr.same s1).trans f')
    rw [if_neg m2] at k
    rw [if_neg (by simpa using m2)]
    have he : editK key = true := hkey.resolve_right fun z => by
      have z := of_decide_eq_true z
      simp only [List.mem_cons, List.not_mem_nil, or_false] at z m1
      rcases z with z | z | z
      · exact m1 (.inl z)
      · exact m1 (.inr z)
      · exact m2 z
    walk_at "z"
    refine ⟨d, sb, sl, kvs, M, key, rfl, R1.st, ok, hbl, hll0, he, fun H' sl' kvs' e' R' x' f' => ?_⟩
    walk_at "z"
    exact k H' sb sl' lk ls kvs' ((((((nw_nil.old (by simp)).old (by simp)).old (by simp)).any (hor (e'.imp id (fresh_of s1)) (by simp))).old (by simp)).old (by simp)) (R1.edit R' (.inl rfl) e' x' f') (ex_s2 x') ((Fr.same s1).trans (f'.mono (by simp)))
end

theorem sc_Hand_recall : FnScope ["self", "spot"] ["self", "spot"] (defScope s_Hand_recall) := ⟨rfl, rfl, rfl, by decide +kernel, rfl, by decide +kernel, by decide +kernel⟩
section
variable {P : Program} {w : World} {K : PySem.W.Frag} {mg : Str → Option Value} {base : Heap}
def sp_Hand_recall (K : PySem.W.Frag) : Sp := fun vs H Q _ => ∃ (p : Addr) (A : HA) (Z : HS) (sp : Int), vs = [.ref p, .int sp] ∧ HandAt K H p A Z ∧ Z.Ok ∧ ∀ H' A', HandAt K H' p A' (Z.recall sp) → Mq H H' p A A' → Q .non H'
theorem m_Hand_recall (T : Tx K mg) : Mt P w K mg base (He.ga K "Hand") "recall" 6 ["self", "spot"] (sp_Hand_recall K) := by
  obtain ⟨fd, F⟩ := T.c.d.def_ 73 (d := d_Hand_recall) rfl
  refine ⟨_, fd, F.ok (CX := L2.CX P w) sc_Hand_recall (fun vs H Q E h => ?len) (fun cdv A outer s H vs Q E hr h => ?body), T.me_Hand_recall, T.cl_Hand, F.bindsN fun _ _ _ _ _ _ us hl => match us, hl with | [_, _], _ => rfl⟩
  case len => obtain ⟨p, A, Z, sp, rfl, h, hO, k⟩ := h; rfl
  case body =>
    obtain ⟨p, A, Z, sp, rfl, h, hO, k⟩ := h
    refine ⟨_, (pss_one (ps_if (pt_chain op_le op_le pe_int (pv 1) (pe_mt0 (pe_get T.cl_Hand T.na_Hand_history (pv 0)) (m_History_many T) (hr.mono (by decide)) tkOf)) (pss_cons (ps_expr (pe_mt (pe_get T.cl_Hand T.na_Hand_history (pv 0)) (m_History_keep T) (hr.mono (by decide)) tkOf (pa_cons (pe_mt0 (pe_get T.cl_Hand T.na_Hand_line (pv 0)) (m_Line_text T) (hr.mono (by decide)) tkOf) pa_nil)))
      (pss_one (ps_expr (pe_mt (pv 0) (m_Hand_load T) (hr.mono (by decide)) tkOf (pa_cons (pe_mt (pe_get T.cl_Hand T.na_Hand_history (pv 0)) (m_History_go T) (hr.mono (by decide)) tkOf (pa_cons (pv 1) pa_nil)) pa_nil))))) pss_nil)), ?_⟩
    have ho := h.ob
    obtain ⟨dl, hol⟩ := h.li.ob
    obtain ⟨dh, hoh⟩ := h.hi.ob
    have hQ := hO.hi
    have lt : Z.hist.spot < Z.hist.shown.length := by have := hQ.m; have := hQ.p; omega
    unfold HS.recall at k
    walk_at "z"
    refine ite_b (fun g1 => ?_) (fun g1 => ?_)
    · have h1' := of_decide_eq_true g1
      walk_at "z"
      refine ⟨A.ph, A.hk, A.hs, 50, _, _, _, rfl, h.hi, ?_⟩
      walk_at "z"
      refine ite_b (fun g2 => ?_) (fun g2 => ?_)
      · have h2' := of_decide_eq_true g2
        rw [if_pos ⟨h1', h2'⟩] at k
        walk_at "z"
        refine ⟨A.pl, A.lb, A.ll, Z.line, rfl, h.li, ?_⟩
        walk_at "z"
        refine ⟨A.ph, A.hk, A.hs, 50, Z.hist.spot, _, _, Z.line.now, rfl, h.hi, lt, fun H1 R1 f1 => ?_⟩
        obtain ⟨h1, m1⟩ := h.history (q := Z.hist.keep Z.line.now) (f1.mono (by simp [HA.fH])) R1 nw_refl
        clear ho hol hoh
        have ho := h1.ob
        obtain ⟨dh, hoh⟩ := h1.hi.ob
        obtain ⟨j, rfl⟩ := Int.eq_ofNat_of_zero_le h1'
        have hk := keep_ok hQ hO.li.ok.text
        have hj : j < (Z.hist.keep Z.line.now).shown.length := by have := hk.m; have : (Z.hist.keep Z.line.now).kept.length = Z.hist.kept.length := rfl; omega
        walk_at "z"
        refine ⟨A.ph, A.hk, A.hs, 50, _, _, _, _, rfl, h1.hi, fun i y ei hy H2 R2 f2 => ?_, fun z => absurd ⟨by omega, by show (j : Int) < ((Z.hist.keep Z.line.now).shown.length : Int); omega⟩ z⟩
        obtain rfl : j = i := by omega
        obtain ⟨h2, m2⟩ := h1.history (q := { Z.hist.keep Z.line.now with spot := j }) (f2.mono (by simp [HA.fH])) R2 nw_refl
        have ey : (Z.hist.keep Z.line.now).shown.getD ((j : Int)).toNat "" = y := by rw [show ((j : Int)).toNat = j by omega, List.getD_eq_getElem?_getD, hy]; rfl
        rw [ey, show ((j : Int)).toNat = j by omega] at k
        clear ho hoh
        have ho := h2.ob
        walk_at "z"
        refine ⟨p, A, _, y, rfl, h2, hk.s y (List.mem_of_getElem? hy), fun H3 A3 _ h3 m3 => ?_⟩
        walk_at "z"
        exact k _ A3 h3 ((m1.trans m2).trans m3)
      · have h2' := of_decide_eq_false g2
        rw [if_neg (fun z => h2' z.2)] at k
        walk_at "z"
        exact k _ A h Mq.refl
    · have h1' := of_decide_eq_false g1
      rw [if_neg (fun z => h1' z.1)] at k
      walk_at "z"
      exact k _ A h Mq.refl
end

theorem sc_Hand_enter : FnScope ["self"] ["self"] (defScope s_Hand_enter) := ⟨rfl, rfl, rfl, by decide +kernel, rfl, by decide +kernel, by decide +kernel⟩
section
variable {P : Program} {w : World} {K : PySem.W.Frag} {mg : Str → Option Value} {base : Heap}
def sp_Hand_enter (K : PySem.W.Frag) : Sp := fun vs H Q _ => ∃ (p : Addr) (A : HA) (Z : HS), vs = [.ref p] ∧ HandAt K H p A Z ∧ Z.Ok ∧ Z.n ≤ 90000 ∧ ∀ H' A', HandAt K H' p A' Z.enter → Mq H H' p A A' → Q .non H'
theorem m_Hand_enter (T : Tx K mg) : Mt P w K mg base (He.ga K "Hand") "enter" 6 ["self"] (sp_Hand_enter K) := by
  obtain ⟨fd, F⟩ := T.c.d.def_ 75 (d := d_Hand_enter) rfl
  refine ⟨_, fd, F.ok (CX := L2.CX P w) sc_Hand_enter (fun vs H Q E h => ?len) (fun cdv A outer s H vs Q E hr h => ?body), T.me_Hand_enter, T.cl_Hand, F.bindsN fun _ _ _ _ _ _ us hl => match us, hl with | [_], _ => rfl⟩
  case len => obtain ⟨p, A, Z, rfl, h, hO, hn, k⟩ := h; rfl
  case body =>
    obtain ⟨p, A, Z, rfl, h, hO, hn, k⟩ := h
    refine ⟨_, (pss_cons (ps_expr (pe_bmK (K := K) rfl PySem.F.plainAttrs_list PySem.F.slot_list_append PySem.F.type_list_append mt_append (pe_get T.cl_Hand T.na_Hand_entered (pv 0)) (pa_cons (pe_mt0 (pe_get T.cl_Hand T.na_Hand_line (pv 0)) (m_Line_text T) (hr.mono (by decide)) tkOf) pa_nil)))
      (pss_cons (ps_expr (pe_mt (pe_get T.cl_Hand T.na_Hand_history (pv 0)) (m_History_add T) (hr.mono (by decide)) tkOf (pa_cons (pe_mt0 (pe_get T.cl_Hand T.na_Hand_line (pv 0)) (m_Line_text T) (hr.mono (by decide)) tkOf) pa_nil)))
      (pss_one (ps_expr (pe_mt (pv 0) (m_Hand_load T) (hr.mono (by decide)) tkOf (pa_cons pe_str pa_nil)))))), ?_⟩
    have ho := h.ob
    obtain ⟨dl, hol⟩ := h.li.ob
    have he := h.en
    have hel := hO.el
    have ok := hO.li.ok.text
    have l4 := okText_len ok
    have hQ := hO.hi
    walk_at "z"
    refine ⟨A.pl, A.lb, A.ll, Z.line, rfl, h.li, ?_⟩
    walk_at "z"
    have f1 : Fr [A.el] H (upd H A.el (.lst (Z.ent.map V.str ++ [.str Z.line.now]))) := Fr.upd Fr.refl (by simp)
    obtain ⟨h1, m1⟩ := h.enteredP (l := Z.ent ++ [Z.line.now]) f1 (by rw [upd_same, List.map_append]; rfl) nw_refl
    generalize upd H A.el _ = H1 at h1 m1 ⊢
    clear ho hol f1
    have ho := h1.ob
    obtain ⟨dl, hol⟩ := h1.li.ob
    obtain ⟨dh, hoh⟩ := h1.hi.ob
    walk_at "z"
    refine ⟨A.pl, A.lb, A.ll, Z.line, rfl, h1.li, ?_⟩
    walk_at "z"
    refine ⟨A.ph, A.hk, A.hs, 50, _, _, _, Z.line.now, rfl, h1.hi, by rw [sizeLine_eq]; omega, by have := hQ.l; show Z.hist.kept.length ≤ 1000; omega, by decide, fun t ht => plain_ok (hQ.k t ht), fun _ H2 lk ls hlk hls R2 f2 => ?_, fun z => (by rw [ok] at z; cases z)⟩
    obtain ⟨h2, m2⟩ := h1.history (q := Z.hist.add Z.line.now) (f2.mono (by simp [HA.fH])) R2 (((nw_nil.new hls).or hlk (by simp [HA.fH])).old (by simp [HA.fH]))
    clear ho hol hoh
    have ho := h2.ob
    walk_at "z"
    refine ⟨p, _, _, "", rfl, h2, empty_ok, fun H3 A3 _ h3 m3 => ?_⟩
    walk_at "z"
    exact k _ A3 h3 ((m1.trans m2).trans m3)
end

theorem sc_Hand_next_choice : FnScope ["self", "start", "some", "k", "later"] ["self"] (defScope s_Hand_next_choice) := ⟨rfl, rfl, rfl, by decide +kernel, rfl, by decide +kernel, by decide +kernel⟩
section
variable {P : Program} {w : World} {K : PySem.W.Frag} {mg : Str → Option Value} {base : Heap}
def sp_Hand_next_choice (K : PySem.W.Frag) : Sp := fun vs H Q _ => ∃ (p : Addr) (A : HA) (Z : HS) (c : ChoiceS), vs = [.ref p] ∧ HandAt K H p A Z ∧ Z.Ok ∧ Z.n ≤ 90000 ∧ Z.choice = some c ∧ ∀ H' A', HandAt K H' p A' (Z.nextChoice c) → Mq H H' p A A' → Q .non H'
theorem m_Hand_next_choice (T : Tx K mg) : Mt P w K mg base (He.ga K "Hand") "next_choice" 6 ["self"] (sp_Hand_next_choice K) := by
  obtain ⟨fd, F⟩ := T.c.d.def_ 77 (d := d_Hand_next_choice) rfl
  refine ⟨_, fd, F.ok (CX := L2.CX P w) sc_Hand_next_choice (fun vs H Q E h => ?len) (fun cdv A outer s H vs Q E hr h => ?body), T.me_Hand_next_choice, T.cl_Hand, F.bindsN fun _ _ _ _ _ _ us hl => match us, hl with | [_], _ => rfl⟩
  case len => obtain ⟨p, A, Z, c, rfl, h, hO, hn, hc, k⟩ := h; rfl
  case body =>
    obtain ⟨p, A, Z, c, rfl, h, hO, hn, hc, k⟩ := h
    refine ⟨_, (pss_cons (ps_asg (pe_get T.cl_Hand T.na_Hand_choice (pv 0)) (pg_tupK (K := K) (n := 3) rfl rfl (pgs_cons (pg_name (i := 1) sc_Hand_next_choice.nd rfl (Or.inl rfl)) (pgs_cons (pg_name (i := 2) sc_Hand_next_choice.nd rfl (Or.inl rfl)) (pgs_cons (pg_name (i := 3) sc_Hand_next_choice.nd rfl (Or.inl rfl)) pgs_nil)))))
      (pss_cons (ps_set (i := 4) sc_Hand_next_choice.nd rfl (Or.inl rfl) (pe_op op_mod (pe_op op_add (pv 3) pe_int) (pe_callB (call_lnK (K := K) rfl) rfl T.n_len boot_len (pa_cons (pv 2) pa_nil))))
      (pss_one (ps_if (pt_val (pe_mt (pv 0) (m_Hand_filled T) (hr.mono (by decide)) tkOf (pa_cons (pv 1) (pa_cons (pe_op op_add (pv 1) (pe_callB (call_lnK (K := K) rfl) rfl T.n_len boot_len (pa_cons (pe_ix (ix_listK (K := K) rfl) (pv 2) (pv 3) (fun _ _ => rfl)) pa_nil))) (pa_cons (pe_ix (ix_listK (K := K) rfl) (pv 2) (pv 4) (fun _ _ => rfl)) pa_nil))))) (pss_one (ps_put T.cl_Hand T.na_Hand_choice (pv 0) (pe_tup (pa_cons (pv 1) (pa_cons (pv 2) (pa_cons (pv 4) pa_nil)))))) pss_nil)))), ?_⟩
    have C := hO.ch c hc
    have ho := h.ob
    obtain ⟨r, l, e1, e2, e3, e4⟩ : ChAt H A.cv A.cfp (some c) := hc ▸ h.ch
    have ck := C.k
    have cf := C.few
    have cs := C.s
    have ce := C.e
    have hm : 0 < c.some_.length := by omega
    have hj : (c.k + 1) % c.some_.length < c.some_.length := Nat.mod_lt _ hm
    have g0 : c.some_[c.k]? = some (c.some_.getD c.k "") := by rw [List.getD_eq_getElem?_getD, List.getElem?_eq_getElem ck]; rfl
    have g1 : c.some_[(c.k + 1) % c.some_.length]? = some (c.some_.getD ((c.k + 1) % c.some_.length) "") := by rw [List.getD_eq_getElem?_getD, List.getElem?_eq_getElem hj]; rfl
    have o0 := C.t _ (List.mem_of_getElem? g0)
    have o1 := C.t _ (List.mem_of_getElem? g1)
    have l0 := okText_len o0
    have l1 := okText_len o1
    unfold handF at ho
    rw [e1] at ho
    unfold HS.nextChoice at k
    dsimp only at k
    walk_at "z"
    refine z_i ?_ ?_
    · rw [List.length_map]; omega
    rw [List.length_map]
    have em : ((c.k : Int) + 1) % (c.some_.length : Int) = (((c.k + 1) % c.some_.length : Nat) : Int) := by rw [show (c.k : Int) + 1 = ((c.k + 1 : Nat) : Int) by omega]; exact (Int.natCast_emod _ _).symm
    rw [em]
    walk_at "z"
    refine z_ixL (SqL.of e4) (atI_nat (by rw [List.getElem?_map, g0]; rfl)) ?_
    have hs0 : (c.some_.getD c.k "").length ≤ sizeLine := by rw [sizeLine_eq]; omega
    walk_at "z"
    refine z_ixL (SqL.of e4) (atI_nat (by rw [List.getElem?_map, g1]; rfl)) ?_
    walk_at "z"
    refine ⟨p, A, Z, _, _, _, rfl, h, hO.li, hn, cs, by omega, ce, okText_all o1, by omega, fun H1 A1 cc h1 m1 => ?_⟩
    walk_at "z"
    refine ite_b (fun g => ?_) (fun g => ?_)
    · rw [if_pos g] at k
      have hch : (Z.filled c.start (c.start + ((c.some_.getD c.k "").length : Int)) (c.some_.getD ((c.k + 1) % c.some_.length) "")).choice = some c := by rw [HS.filled_eq]; exact hc
      obtain ⟨r1, l1', q1, q2, q3, q4⟩ : ChAt H1 A1.cv A1.cfp (some c) := hch ▸ h1.ch
      obtain rfl : l = l1' := by
        rw [cc.2, e2] at q2
        injection q2
      clear ho
      walk_at "z"
      intro r2 hr2
      have s2 := Same.new (Same.refl H1) hr2 (o := .tup [.int c.start, .ref l, .int (((c.k + 1) % c.some_.length : Nat) : Int)])
      have h2 := h1.same s2
      have ho := h2.ob
      walk_at "z"
      have h3 := h2.put_choice2 (v := .ref r2) (q := some { c with k := (c.k + 1) % c.some_.length }) ⟨r2, l, rfl, q2, upd_same, by rw [upd_ne (ne_of_none q4 hr2)]; exact q4⟩
      exact k _ _ h3 ((m1.trans (Mq.same s2)).trans (h2.mvq _ rfl rfl))
    · rw [if_neg (by rw [g]; exact Bool.false_ne_true)] at k
      have ez : Z.filled c.start (c.start + ((c.some_.getD c.k "").length : Int)) (c.some_.getD ((c.k + 1) % c.some_.length) "") = Z := by unfold HS.filled; rw [if_neg (by rw [g]; exact Bool.false_ne_true)]
      rw [ez] at h1
      walk_at "z"
      exact k _ A1 h1 m1
end

theorem sc_Hand_show_found : FnScope ["self", "search", "spot", "text"] ["self"] (defScope s_Hand_show_found) := ⟨rfl, rfl, rfl, by decide +kernel, rfl, by decide +kernel, by decide +kernel⟩
section
variable {P : Program} {w : World} {K : PySem.W.Frag} {mg : Str → Option Value} {base : Heap}
/-- the line that was there at first comes: load, show, go -/
def sp_Hand_show_found (K : PySem.W.Frag) : Sp := fun vs H Q _ => ∃ (p : Addr) (A : HA) (Z : HS) (q : SrchS), vs = [.ref p] ∧ HandAt K H p A Z ∧ QOk Z.hist ∧ Z.srch = some q ∧ SOk q Z.hist.kept (Z.n + 1) ∧ ∀ H' A', HandAt K H' p A' (Z.showFound q) → Mq H H' p A A' → Q .non H'
theorem m_Hand_show_found (T : Tx K mg) : Mt P w K mg base (He.ga K "Hand") "show_found" 6 ["self"] (sp_Hand_show_found K) := by
  obtain ⟨fd, F⟩ := T.c.d.def_ 80 (d := d_Hand_show_found) rfl
  refine ⟨_, fd, F.ok (CX := L2.CX P w) sc_Hand_show_found (fun vs H Q E h => ?len) (fun cdv A outer s H vs Q E hr h => ?body), T.me_Hand_show_found, T.cl_Hand, F.bindsN fun _ _ _ _ _ _ us hl => match us, hl with | [_], _ => rfl⟩
  case len => obtain ⟨p, A, Z, q, rfl, h, hQ, hs, hq, k⟩ := h; rfl
  case body =>
    obtain ⟨p, A, Z, q, rfl, h, hQ, hs, hq, k⟩ := h
    refine ⟨_, (pss_cons (ps_set (i := 1) sc_Hand_show_found.nd rfl (Or.inl rfl) (pe_get T.cl_Hand T.na_Hand_search (pv 0)))
      (pss_cons (ps_set (i := 2) sc_Hand_show_found.nd rfl (Or.inl rfl) (pe_mt0 (pv 1) (m_Search_found T) (hr.mono (by decide)) tkOf))
      (pss_cons (ps_if (pt_cmpR op_isNon (pv 2) pe_non (nomark _)) (pss_cons (ps_expr (pe_mt (pv 0) (m_Hand_load T) (hr.mono (by decide)) tkOf (pa_cons (pe_ix (ix_tupK (K := K) rfl) (pe_get T.cl_Search T.na_Search_was (pv 1)) pe_int (fun _ _ => rfl)) pa_nil)))
      (pss_cons (ps_expr (pe_mt (pe_get T.cl_Hand T.na_Hand_line (pv 0)) (m_Line_show T) (hr.mono (by decide)) tkOf (pa_cons (pe_get T.cl_Search T.na_Search_was (pv 1)) pa_nil)))
      (pss_cons (ps_expr (pe_mt (pe_get T.cl_Hand T.na_Hand_history (pv 0)) (m_History_go T) (hr.mono (by decide)) tkOf (pa_cons (pe_get T.cl_Search T.na_Search_spot (pv 1)) pa_nil)))
      (pss_one ps_retN)))) pss_nil)
      (pss_cons (ps_set (i := 3) sc_Hand_show_found.nd rfl (Or.inl rfl) (pe_ix (ix_listK (K := K) rfl) (pe_mt0 (pe_get T.cl_Hand T.na_Hand_history (pv 0)) (m_History_all_lines T) (hr.mono (by decide)) tkOf) (pv 2) (fun _ _ => rfl)))
      (pss_cons (ps_expr (pe_mt (pe_get T.cl_Hand T.na_Hand_history (pv 0)) (m_History_go T) (hr.mono (by decide)) tkOf (pa_cons (pv 2) pa_nil)))
      (pss_cons (ps_expr (pe_mt (pv 0) (m_Hand_load T) (hr.mono (by decide)) tkOf (pa_cons (pv 3) pa_nil)))
      (pss_one (ps_expr (pe_mt (pe_get T.cl_Hand T.na_Hand_line (pv 0)) (m_Line_go T) (hr.mono (by decide)) tkOf (pa_cons (pe_bmK (K := K) rfl PySem.F.plainAttrs_str PySem.F.slot_str_find PySem.F.type_str_find mt_findN (pv 3) (pa_cons (pe_ix (ix_tupK (K := K) rfl) (pe_ix (ix_listK (K := K) rfl) (pe_get T.cl_Search T.na_Search_trail (pv 1)) (pe_un un_neg pe_int) (fun _ _ => rfl)) pe_int (fun _ _ => rfl)) pa_nil)) pa_nil)))))))))), ?_⟩
    have ho := h.ob
    obtain ⟨ps, st, e1, e2, R⟩ : SrAt K H A.sv A.sfp (some q) := hs ▸ h.sr
    obtain ⟨⟨dx, r, hp, hP⟩, htr⟩ := id R
    unfold handF at ho
    rw [e1] at ho
    have hw := hq.was
    have hm := hQ.m
    unfold HS.showFound at k
    walk_at "z"
    refine ⟨ps, st, q, rfl, R, hq.ne, ?_⟩
    cases ha : q.last.at_ with
    | none =>
      rw [ha] at k
      dsimp only at k
      unfold HS.back at k
      have hP' : H r = some (.tup [.str q.was.txt, .int q.was.at_, .int q.was.mrk]) := hP
      rw [show optV none = .non from rfl]
      walk_at "z"
      refine ⟨p, A, Z, q.was.txt, rfl, h, hw.1, fun H1 A1 c1 h1 m1 => ?_⟩
      obtain ⟨ps1, st1, f1, f2, R1⟩ : SrAt K H1 A1.sv A1.sfp (some q) := hs ▸ h1.sr
      obtain rfl : ps = ps1 := by rw [c1.1, e1] at f1; injection f1
      obtain ⟨⟨dx1, r1, hp1, hP1⟩, _⟩ := id R1
      clear ho hp
      have ho := h1.ob
      obtain ⟨dl, hol⟩ := h1.li.ob
      walk_at "z"
      refine ⟨A1.pl, A1.lb, A1.ll, r1, _, q.was, rfl, h1.li, hP1, fun H2 R2 g2 => ?_⟩
      obtain ⟨h2, m2⟩ := h1.line (g2.mono (by simp [HA.fL])) R2 nw_refl
      obtain ⟨ps2, st2, f3, f4, R3⟩ : SrAt K H2 A1.sv A1.sfp (some q) := hs ▸ h2.sr
      obtain rfl : ps = ps2 := by rw [f1] at f3; injection f3
      obtain ⟨⟨dx2, r2, hp2, hP2⟩, _⟩ := id R3
      clear ho hol hp1
      have ho := h2.ob
      obtain ⟨dh, hoh⟩ := h2.hi.ob
      have lt : q.spot < Z.hist.shown.length := by have := hq.spot; omega
      walk_at "z"
      refine ⟨A1.ph, A1.hk, A1.hs, 50, _, _, _, _, rfl, h2.hi, fun i y ei hy H3 R4 g3 => ?_, fun z => absurd ⟨by omega, by show (q.spot : Int) < (Z.hist.shown.length : Int); omega⟩ z⟩
      obtain ⟨h3, m3⟩ := h2.history (q := { Z.hist with spot := q.spot }) (g3.mono (by simp [HA.fH])) R4 nw_refl
      walk_at "z"
      exact k _ _ h3 ((m1.trans m2).trans m3)
    | some j =>
      rw [ha] at k
      dsimp only at k
      obtain ⟨x, hx, hi⟩ := (hq.es _ (HS.last_mem hq.ne)).2 j ha
      have lt := (List.getElem?_eq_some_iff.mp hx).1
      have ex : Z.hist.kept.getD j "" = x := by rw [List.getD_eq_getElem?_getD, hx]; rfl
      rw [ex] at k
      have xo := hQ.k x (List.mem_of_getElem? hx)
      obtain ⟨dh, hoh⟩ := h.hi.ob
      rw [show optV (some j) = .int (j : Nat) from rfl]
      walk_at "z"
      refine ⟨A.ph, A.hk, A.hs, 50, _, _, _, rfl, h.hi, fun l hl => ?_⟩
      have s1 := Same.new (Same.refl H) hl (o := .lst (Z.hist.kept.map V.str))
      have h1 := h.same s1
      walk_at "z"
      refine z_ixL (v := .str x) (SqL.of upd_same) (atI_nat (by rw [List.getElem?_map, hx]; rfl)) ?_
      generalize upd H l _ = H1 at s1 h1 ⊢
      clear ho hoh hp
      have ho := h1.ob
      obtain ⟨dh, hoh⟩ := h1.hi.ob
      walk_at "z"
      refine ⟨A.ph, A.hk, A.hs, 50, _, _, _, _, rfl, h1.hi, fun i y ei hy H2 R2 g2 => ?_, fun z => absurd ⟨by omega, by show (j : Int) < (Z.hist.shown.length : Int); omega⟩ z⟩
      obtain ⟨h2, m2⟩ := h1.history (q := { Z.hist with spot := j }) (g2.mono (by simp [HA.fH])) R2 nw_refl
      clear ho hoh
      have ho := h2.ob
      walk_at "z"
      refine ⟨p, A, _, x, rfl, h2, xo, fun H3 A3 c3 h3 m3 => ?_⟩
      obtain ⟨ps1, st1, f1, f2, R1⟩ : SrAt K H3 A3.sv A3.sfp (some q) := hs ▸ h3.sr
      obtain rfl : ps = ps1 := by rw [c3.1, e1] at f1; injection f1
      obtain ⟨⟨dx1, r1, hp1, hP1⟩, htr1⟩ := id R1
      obtain ⟨rs, r4, i1, i2, i3, _⟩ := trail_last htr1 hq.ne
      clear ho
      have ho := h3.ob
      obtain ⟨dl, hol⟩ := h3.li.ob
      walk_at "z"
      refine z_ixL (SqL.of i1) i2 ?_
      have i3' : H3 r4 = some (.tup [optV q.last.at_, .bl q.last.lost, .str q.last.part]) := i3
      walk_at "z"
      refine ⟨A3.pl, A3.lb, A3.ll, _, _, rfl, h3.li, okText_len xo, fun _ H4 R5 g4 => ?_, fun z => absurd (find_place hi) z⟩
      obtain ⟨h4, m4⟩ := h3.line (g4.mono (by simp [HA.fL])) R5 nw_refl
      walk_at "z"
      exact k _ _ h4 ((((Mq.same s1).trans m2).trans m3).trans m4)
end

theorem sc__law_key : FnScope ["state", "key"] ["state", "key"] (defScope s__law_key) := ⟨rfl, rfl, rfl, by decide +kernel, rfl, by decide +kernel, by decide +kernel⟩
section
variable {P : Program} {w : World} {K : PySem.W.Frag} {mg : Str → Option Value} {base : Heap}
structure Calm3 (Z : HS) : Prop where
  t : Z.times = none
  k : Z.kept = none
theorem press3 {Z : HS} {key : Str} (h : Calm3 Z) (hf : isFig key = false) (hr : key ∉ RSP) : Z.press key = (match Z.srch with | none => Z.again key | some q => if (Z.searched q key).1 then (Z.searched q key).2 else (Z.searched q key).2.again key) := by
  have p1 : ∀ Y : HS, Y.times = none → Y.srch = none → Y.pressed1 key = Y.again key := fun Y ht hs => by
    unfold HS.pressed1
    rw [if_neg (by rw [hf]; exact Bool.false_ne_true), ht]
    show HS.turns key 0 (({ Y with times := none } : HS).turn key) = _
    have e : ({ Y with times := none } : HS) = Y := by rw [← ht]
    rw [e]
    show Y.turn key = _
    unfold HS.turn
    rw [hs]
  rw [press_rsp hr h.k]
  unfold HS.pressed
  cases hs : Z.srch with
  | none => exact p1 Z h.t hs
  | some q =>
    dsimp only
    by_cases c : (Z.searched q key).1 = true
    · rw [if_pos c, if_pos c]
    · rw [if_neg c, if_neg c]
      have ht : (Z.searched q key).2.times = none := by
        unfold HS.searched
        have sk : ∀ (q2 : SrchS) (b : Bool), (Z.seek q2 b).times = Z.times := fun q2 b => by
          unfold HS.seek
          dsimp only
          split
          · unfold HS.showFound; split <;> rfl
          · rfl
        repeat' split
        all_goals first
          | exact (sk _ _).trans h.t
          | exact h.t
      have hsn : (Z.searched q key).2.srch = none := by
        unfold HS.searched at c ⊢
        repeat' split at c
        all_goals first
          | exact absurd rfl c
          | skip
        simp only [*, if_false, if_true, if_neg, if_pos]
        rfl
      exact p1 _ ht hsn
theorem nw_both {H : Hp} {X X' fp fp' : List Addr} (h : Nw H X X') (g : ∀ y ∈ fp', y ∈ fp ∨ H y = none) : Nw H (X ++ fp) (X' ++ fp') := fun y hy => by
  rcases List.mem_append.mp hy with z | z
  · exact (h y z).imp (fun e => List.mem_append_left _ e) id
  · exact (g y z).imp (fun e => List.mem_append_right _ e) id
theorem nw_chain {H H1 : Hp} {X X1 X2 : List Addr} (h : Nw H X X1) (f : Fr X H H1) (g : Nw H1 X1 X2) : Nw H X X2 := fun y hy => by
  rcases g y hy with z | z
  · exact h y z
  · by_cases m : y ∈ X
    · exact .inl m
    · exact .inr (f.free z m)
theorem S2.putNew {H : Hp} {d sb sl lk ls lt : Addr} {kvs : List (Key × V)} {M : LineS} {hq : HistS} {ent : List Str} {x : Str} {v : V} (R : S2 H d sb sl lk ls lt kvs M hq ent) (hx : x ∉ s2K) (hl : (putK kvs (.inr x) v).length ≤ 100) : S2 (upd H d (.dK (putK kvs (.inr x) v))) d sb sl lk ls lt (putK kvs (.inr x) v) M hq ent := by
  have f : Fr [d] H (upd H d (.dK (putK kvs (.inr x) v))) := Fr.upd Fr.refl (by simp)
  have hn : ∀ y ∈ [lk, ls, lt], y ∉ [d] := fun y hy z => R.ap y hy (by simp only [List.mem_singleton] at z; rw [z]; simp)
  have n : ∀ y ∈ s2K, (y == x) = false := fun y hy => beq_eq_false_iff_ne.mpr fun z => hx (z ▸ hy)
  have hst : x ∉ stK := fun z => hx (List.mem_append_left _ z)
  exact ⟨R.st.putOther hst hl, dg_ne (n _ (by decide)) R.kk, dg_ne (n _ (by decide)) R.ks, dg_ne (n _ (by decide)) R.kh, dg_ne (n _ (by decide)) R.kt, f _ _ R.hk (hn lk (by simp)), f _ _ R.hs (hn ls (by simp)), f _ _ R.ht (hn lt (by simp)), R.n1, R.n2, R.n3, R.ap⟩
theorem search_again {Y : HS} : Y.again "search" = { Y with line := Y.line.rest, hist := Y.hist.keep Y.line.now, srch := some ⟨Y.line.pic, Y.hist.spot, "", [⟨none, false, ""⟩]⟩, cut := false, yank := none, choice := none, n := Y.n + 1 } := by
  rw [HS.again_eq (by decide) (by decide) (by decide), HS.once_not (by decide +kernel), HS.once1, if_neg (by decide), if_neg (by decide), if_neg (by decide), if_neg (by decide), if_neg (by decide), if_neg (by decide), if_neg (by decide)]
  unfold HS.other
  rw [if_neg (by decide), if_neg (by decide), if_neg (by decide), if_neg (by decide), if_pos rfl]
  rfl
def sp_law_key (K : PySem.W.Frag) : Sp := fun vs H Q _ => ∃ (d sb sl lk ls lt : Addr) (kvs : List (Key × V)) (fp : List Addr) (Z : HS) (key : Str), vs = [.ref d, .str key] ∧ S3 H d sb sl lk ls lt kvs Z.line Z.hist Z.ent fp Z.srch ∧ Z.Ok ∧ Calm3 Z ∧ Z.n ≤ 50000 ∧ sK key = true ∧ ∀ H' sb' sl' lk' ls' kvs' fp', Nw H ([d, sb, sl, lk, ls, lt] ++ fp) ([d, sb', sl', lk', ls', lt] ++ fp') → S3 H' d sb' sl' lk' ls' lt kvs' (Z.press key).line (Z.press key).hist (Z.press key).ent fp' (Z.press key).srch → Fr ([d, sb, sl, lk, ls, lt] ++ fp) H H' → Q .non H'
theorem f__law_key (T : Tx K mg) : Fn P w K mg base "_law_key" 6 ["state", "key"] (sp_law_key K) := by
  obtain ⟨fd, F⟩ := T.c.d.def_ 104 (d := d__law_key) rfl
  refine ⟨_, fd, F.ok (CX := L2.CX P w) sc__law_key (fun vs H Q E h => ?len) (fun cdv A outer s H vs Q E hr h => ?body), T.g__law_key, F.kp, F.bindsN fun _ _ _ _ _ _ us hl => match us, hl with | [_, _], _ => rfl, FunD.bindsA F fun _ _ _ _ _ _ us hl => match us, hl with | [_, _], _ => rfl⟩
  case len => obtain ⟨d, sb, sl, lk, ls, lt, kvs, fp, Z, key, rfl, R, hO, hC, hn, hk, k⟩ := h; rfl
  case body =>
    obtain ⟨d, sb, sl, lk, ls, lt, kvs, fp, Z, key, rfl, R, hO, hC, hn, hk, k⟩ := h
    have hu := hu_of hr
    refine ⟨_, (Evl.pss_cut (ps_if (PW.pt (pw_and (pt_cmpR op_notNon (pe_dget hu (pv 0) pe_str (fun _ _ => rfl)) pe_non (nomark _)) (pw_and1 (pt_val (pe_fn (f__law_searched T) (hr.mono (by decide)) tkOf (pa_cons (pv 0) (pa_cons (pv 1) pa_nil))))))) (pss_one ps_retN) pss_nil)
      (pss_one (ps_if (pt_cmpR op_eq (pv 1) pe_str (nomark _)) (pss_cons (ps_dput hu (pv 0) pe_str pe_int rfl)
      (pss_cons (ps_asg (pe_ix (ix_tupK (K := K) rfl) (pe_dget hu (pv 0) pe_str (fun _ _ => rfl)) pe_int (fun _ _ => rfl)) (pg_sub (pe_dget hu (pv 0) pe_str (fun _ _ => rfl)) (pe_dget hu (pv 0) pe_str (fun _ _ => rfl)) set_list))
      (pss_cons (ps_dput hu (pv 0) pe_str (pe_tup (pa_cons (pe_dget hu (pv 0) pe_str (fun _ _ => rfl)) (pa_cons (pe_dget hu (pv 0) pe_str (fun _ _ => rfl)) pa_nil))) rfl)
      (pss_cons (ps_dput hu (pv 0) pe_str pe_str rfl)
      (pss_one (ps_dput hu (pv 0) pe_str (pe_lst (pa_cons (pe_tup (pa_cons pe_non (pa_cons pe_bl (pa_cons pe_str pa_nil)))) pa_nil)) rfl)))))) (pss_one (ps_expr (pe_fn (f__law_press T) (hr.mono (by decide)) tkOf (pa_cons (pv 0) (pa_cons (pv 1) pa_nil)))))))), ?_⟩
    have facts : isFig key = false ∧ key ∉ RSP := by
      unfold sK at hk
      rw [Bool.or_eq_true] at hk
      rcases hk with z | z
      · have e : editK key = true := by unfold editK; rw [z]; rfl
        exact ⟨(edit_key e).2.1, (edit_key e).2.2.1⟩
      · exact (by decide +kernel : ∀ k ∈ SK, isFig k = false ∧ k ∉ RSP) key (of_decide_eq_true z)
    have ep := press3 hC facts.1 facts.2
    have ho := R.s2.st.ob
    have hlen := R.s2.st.len
    refine z_cut (fun σ' H' => ∃ (Y : HS) (sb' sl' : Addr) (kvs' : List (Key × V)) (fp' : List Addr), σ' = [some (.ref d), some (.str key)] ∧ S3 H' d sb' sl' lk ls lt kvs' Y.line Y.hist Y.ent fp' none ∧ Y.srch = none ∧ Z.press key = Y.again key ∧ Y.Ok ∧ Calm3 Y ∧ Y.n ≤ 50001 ∧ Nw H ([d, sb, sl, lk, ls, lt] ++ fp) ([d, sb', sl', lk, ls, lt] ++ fp') ∧ Fr ([d, sb, sl, lk, ls, lt] ++ fp) H H') ?_ ?_
    · cases hs : Z.srch with
      | none =>
        rw [hs] at R ep
        obtain ⟨gw, efp⟩ := id R.sr
        walk_at "z"
        exact ⟨Z, sb, sl, kvs, fp, rfl, R, hs, ep, hO, hC, by omega, nw_refl, Fr.refl⟩
      | some q =>
        rw [hs] at R ep
        obtain ⟨rw0, rn, lt2, gw, hrw, hrn, gp, gt, hT, efp⟩ := id R.sr
        dsimp only at ep
        walk_at "z"
        refine ⟨d, sb, sl, lk, ls, lt, kvs, fp, Z, q, key, rfl, R, hO, hs, hn, hk, fun H1 sb1 sl1 kv1 fp1 nw1 sub1 R1 f1 => ?_⟩
        have okS := hO.searched hs key
        have ent1 : (Z.searched q key).2.ent = Z.ent := by
          have sk : ∀ (q2 : SrchS) (b : Bool), (Z.seek q2 b).ent = Z.ent := fun q2 b => by
            unfold HS.seek
            dsimp only
            split
            · unfold HS.showFound; split <;> rfl
            · rfl
          unfold HS.searched
          repeat' split
          all_goals first
            | exact sk _ _
            | rfl
        rw [← ent1] at R1
        walk_at "z"
        refine ite_b (fun g => ?_) (fun g => ?_)
        · rw [if_pos g] at ep
          walk_at "z"
          rw [ep] at k
          exact k H1 sb1 sl1 lk ls kv1 fp1 (nw_both nw1 sub1) R1 f1
        · rw [if_neg (by rw [g]; exact Bool.false_ne_true)] at ep
          have hsn := okS.2 g
          rw [hsn] at R1
          walk_at "z"
          refine ⟨(Z.searched q key).2, sb1, sl1, kv1, fp1, rfl, R1, hsn, ep, okS.1, ⟨?_, ?_⟩, by rw [HS.searched_n]; omega, nw_both nw1 sub1, f1⟩
          · have sk : ∀ (q2 : SrchS) (b : Bool), (Z.seek q2 b).times = Z.times := fun q2 b => by
              unfold HS.seek
              dsimp only
              split
              · unfold HS.showFound; split <;> rfl
              · rfl
            unfold HS.searched
            repeat' split
            all_goals first
              | exact (sk _ _).trans hC.t
              | exact hC.t
          · exact HS.searched_mac.2.trans hC.k
    rintro σ' H1 ⟨Y, sb1, sl1, kv1, fp1, rfl, R1, hs1, ep1, okY, hCY, hn1, nw1, f1⟩
    rw [ep1] at k
    clear ep ep1 R ho
    obtain ⟨gw1, efp1⟩ := id R1.sr
    have calmY : Y.Calm := ⟨hCY.t, hs1, hCY.k⟩
    by_cases ns : key = "search"
    · subst ns
      rw [search_again] at k
      have ho := R1.s2.st.ob
      have hlen1 := R1.s2.st.len
      walk_at "z"
      have R2 := R1.s2.edit (R1.s2.st.putRun 0) (.inl rfl) (.inl rfl) (by walk_at "ex") (Fr.upd Fr.refl (by simp))
      change S2 _ d sb1 sl1 lk ls lt _ Y.line.rest Y.hist Y.ent at R2
      have x2 : Ex s2K kv1 (putK kv1 (.inr "run") (.int 0)) := ex_s2 (by walk_at "ex")
      have f2 : Fr [d, sb1, sl1, lk, ls, lt] H1 (upd H1 d (.dK (putK kv1 (.inr "run") (.int 0)))) := Fr.upd Fr.refl (by simp)
      have sm2 := R1.sm.ex R1.s2 x2
      clear ho
      generalize putK kv1 (.inr (Str.ofString "run")) (.int 0) = kv2 at *
      generalize upd H1 d _ = H2 at R2 f2 ⊢
      have ho := R2.st.ob
      obtain ⟨rn, hrn, hp0⟩ := R2.st.now
      have hp : H2 rn = some (.tup [.str Y.line.now, .int Y.line.caret, .int Y.line.mark]) := hp0
      have ks2 := R2.ks
      have kh2 := R2.kh
      walk_at "z"
      refine z_setL (j := Y.hist.spot) R2.hs (Evl.ixN_nat (by rw [List.length_map, okY.hi.m]; have := okY.hi.p; omega)) ?_
      rw [← List.map_set]
      have R3 := R2.setShown (Y.hist.shown.set Y.hist.spot Y.line.now)
      have f3 : Fr [d, sb1, sl1, lk, ls, lt] H1 (upd H2 ls (.lst ((Y.hist.shown.set Y.hist.spot Y.line.now).map V.str))) := Fr.upd f2 (by simp)
      have hp3 : PicAt (upd H2 ls (.lst ((Y.hist.shown.set Y.hist.spot Y.line.now).map V.str))) rn Y.line.pic := hp0.fr (Fr.upd Fr.refl (by simp) : Fr [ls] H2 _) (wr1_lst R2.hs).1.nt
      clear ho hp hp0
      generalize upd H2 ls _ = H3 at R3 f3 hp3 ⊢
      have ho := R3.st.ob
      have hlen3 := R3.st.len
      walk_at "z"
      intro tw htw
      have s4 : Same H3 (upd H3 tw (.tup [.ref rn, .int (Y.hist.spot : Nat)])) := Same.new (Same.refl _) htw
      have hw4 : upd H3 tw (.tup [.ref rn, .int (Y.hist.spot : Nat)]) tw = some (.tup [.ref rn, .int (Y.hist.spot : Nat)]) := upd_same
      have R4 := R3.same s4
      have hp4 := hp3.same s4
      clear ho
      generalize upd H3 tw _ = H4 at s4 hw4 R4 hp4 ⊢
      have ho := R4.st.ob
      obtain ⟨⟨w0, hw0⟩, hsz⟩ := sm2
      have l11 : kv2.length ≤ 11 := hsz.elim (fun z => by omega) fun z => z.1
      have e5 := put_len (v := .ref tw) hw0
      have R5 := R4.putNew (x := "was") (v := .ref tw) (by decide) (by omega)
      have l6 := length_putK (putK kv2 (.inr "was") (.ref tw)) (.inr "part") (.str "")
      have R6 := R5.putNew (x := "part") (v := .str "") (by decide) (by omega)
      simp only [upd_upd] at R6
      walk_at "z"
      simp only [upd_upd]
      have f6 : Fr [d] H4 (upd H4 d (.dK (putK (putK kv2 (.inr "was") (.ref tw)) (.inr "part") (.str "")))) := Fr.upd Fr.refl (by simp)
      have hw6 := f6 _ _ hw4 (by have := ne_of hw4 ho (by intro z; cases z); simpa using this)
      have hp6 := hp4.fr f6 (.cons (nt_dK ho) nt_nil)
      have gw6 : DG (putK (putK kv2 (.inr "was") (.ref tw)) (.inr "part") (.str "")) "was" (.ref tw) := dg_ne rfl dg_same
      have gp6 : DG (putK (putK kv2 (.inr "was") (.ref tw)) (.inr "part") (.str "")) "part" (.str "") := dg_same
      have sz6 : (putK (putK kv2 (.inr "was") (.ref tw)) (.inr "part") (.str "")).length ≤ 10 ∨ ((putK (putK kv2 (.inr "was") (.ref tw)) (.inr "part") (.str "")).length ≤ 11 ∧ Has (putK (putK kv2 (.inr "was") (.ref tw)) (.inr "part") (.str "")) "trail") := by
        rcases hsz with z | ⟨z1, z2, z3⟩
        · exact .inl (by omega)
        · obtain ⟨pv, hpv⟩ := z2.put (x := "was") (v := .ref tw)
          have := put_len (v := .str "") hpv
          exact .inr ⟨by omega, (z3.put).put⟩
      clear ho R5 l6 e5
      generalize putK (putK kv2 (.inr (Str.ofString "was")) (.ref tw)) (.inr (Str.ofString "part")) (.str "") = kv6 at *
      generalize upd H4 d _ = H6 at R6 f6 hw6 hp6 ⊢
      intro te hte
      have s7 : Same H6 (upd H6 te (.tup [.non, .bl false, .str ""])) := Same.new (Same.refl _) hte
      have he7 : EntAt (upd H6 te (.tup [.non, .bl false, .str ""])) te ⟨none, false, ""⟩ := upd_same
      have R7 := R6.same s7
      generalize upd H6 te _ = H7 at s7 he7 R7 ⊢
      walk_at "z"
      intro l8 hl8
      have s8 : Same H7 (upd H7 l8 (.lst [.ref te])) := Same.new (Same.refl _) hl8
      have e8 : upd H7 l8 (.lst [.ref te]) l8 = some (.lst ([te].map V.ref)) := upd_same
      have he8 : EntAt (upd H7 l8 (.lst [.ref te])) te ⟨none, false, ""⟩ := s8 _ _ he7
      have nl8 : l8 ∉ [d, sb1, sl1, lk, ls, lt] := fun z => R7.alive l8 z hl8
      have R8 := R7.same s8
      have s68 := s7.trans s8
      generalize upd H7 l8 _ = H8 at s8 e8 he8 R8 s68 ⊢
      have ho := R8.st.ob
      have l9 := length_putK kv6 (.inr "trail") (.ref l8)
      have hkv6 : kv6.length ≤ 11 := sz6.elim (fun z => by omega) fun z => z.1
      walk_at "z"
      have f9 : Fr [d] H8 (upd H8 d (.dK (putK kv6 (.inr "trail") (.ref l8)))) := Fr.upd Fr.refl (by simp)
      have nt9 : Nt H8 [d] := .cons (nt_dK ho) nt_nil
      have R9 := R8.putNew (x := "trail") (v := .ref l8) (by decide) (by omega)
      have nd8 : l8 ≠ d := fun z => nl8 (by simp [z])
      have hw8 := s68 _ _ hw6
      have f17 : Fr [d, sb1, sl1, lk, ls, lt] H1 H7 := (f3.trans (Fr.same s4)).trans ((f6.mono (by simp)).trans (Fr.same s7))
      have f18 : Fr [d, sb1, sl1, lk, ls, lt] H1 (upd H8 d (.dK (putK kv6 (.inr "trail") (.ref l8)))) := (f17.trans (Fr.same s8)).trans (f9.mono (by simp))
      refine k _ sb1 sl1 lk ls _ [l8] ?_ ⟨R9, ⟨tw, rn, l8, dg_ne rfl gw6, f9 _ _ hw8 (fun z => nt9 _ z _ hw8), (hp6.same s68).fr f9 nt9, dg_ne rfl gp6, dg_same, ⟨[te], f9 _ _ e8 (by simpa using nd8), .cons (he8.fr f9 nt9) .nil⟩, rfl⟩, fun y hy => by rw [List.mem_singleton.mp hy]; exact nl8, ⟨_, dg_ne rfl gw6⟩, .inr ⟨?_, ⟨_, dg_ne rfl gp6⟩, ⟨_, dg_same⟩⟩⟩ ?_
      · refine nw_chain nw1 f1 fun y hy => ?_
        rcases List.mem_append.mp hy with z | z
        · exact .inl (List.mem_append_left _ z)
        · rw [List.mem_singleton.mp z]
          exact .inr (f17.free hl8 nl8)
      · rcases sz6 with z | ⟨z1, tv, htv⟩
        · omega
        · rw [put_len htv]; exact z1
      · intro b o eb nb
        refine f18 b o (f1 b o eb nb) fun z => ?_
        rcases nw1 b (List.mem_append_left _ z) with w | w
        · exact nb w
        · rw [eb] at w; cases w
    have hh : histK key = true := by
      unfold sK at hk
      rw [Bool.or_eq_true] at hk
      rcases hk with z | z
      · unfold histK editK; rw [z]; rfl
      · exact (by decide +kernel : ∀ k ∈ SK, ¬ k = "search" → histK k = true) key (of_decide_eq_true z) ns
    obtain ⟨ik, hC2, en, e1, e2, e3⟩ := press_hist calmY hh
    rw [press_calm calmY facts.1 facts.2] at hC2 en e1 e2 e3
    have lo := okY.li
    walk_at "z"
    rw [if_neg (by simpa using ns)]
    walk_at "z"
    refine ⟨d, sb1, sl1, lk, ls, lt, kv1, Y.line, Y.hist, Y.ent, key, rfl, R1.s2, hh, okY.hi, lo.ok, by have := lo.b; omega, by have := lo.l; omega, by have := okY.el; omega, fun H2 sb2 sl2 lk2 ls2 kv2 nw2 R2 x2 f2 => ?_⟩
    walk_at "z"
    have R3 := R1.step R2 nw2 x2 f2
    rw [← e1, ← e2, ← e3, ← hC2.s] at R3
    refine k H2 sb2 sl2 lk2 ls2 kv2 fp1 (nw_chain nw1 f1 (nw_both nw2 fun y hy => .inl hy)) R3 (fun b o eb nb => ?_)
    have h1 := f1 b o eb nb
    refine f2 b o h1 fun z => ?_
    rcases nw1 b (List.mem_append_left _ z) with w | w
    · exact nb w
    · rw [eb] at w; cases w
end

theorem sc_Hand_fill : FnScope ["self", "text", "at", "some", "start", "common"] ["self"] (defScope s_Hand_fill) := ⟨rfl, rfl, rfl, by decide +kernel, rfl, by decide +kernel, by decide +kernel⟩
section
variable {P : Program} {w : World} {K : PySem.W.Frag} {mg : Str → Option Value} {base : Heap}
def sp_Hand_fill (K : PySem.W.Frag) : Sp := fun vs H Q _ => ∃ (p : Addr) (A : HA) (Z : HS), vs = [.ref p] ∧ HandAt K H p A Z ∧ Z.Ok ∧ Z.n ≤ 90000 ∧ ∀ H' A', HandAt K H' p A' Z.fill → Mq H H' p A A' → Q .non H'
theorem m_Hand_fill (T : Tx K mg) : Mt P w K mg base (He.ga K "Hand") "fill" 7 ["self"] (sp_Hand_fill K) := by
  obtain ⟨fd, F⟩ := T.c.d.def_ 76 (d := d_Hand_fill) rfl
  refine ⟨_, fd, F.ok (CX := L2.CX P w) sc_Hand_fill (fun vs H Q E h => ?len) (fun cdv A outer s H vs Q E hr h => ?body), T.me_Hand_fill, T.cl_Hand, F.bindsN fun _ _ _ _ _ _ us hl => match us, hl with | [_], _ => rfl⟩
  case len => obtain ⟨p, A, Z, rfl, h, hO, hn, k⟩ := h; rfl
  case body =>
    obtain ⟨p, A, Z, rfl, h, hO, hn, k⟩ := h
    refine ⟨_, (pss_cons (ps_set (i := 1) sc_Hand_fill.nd rfl (Or.inl rfl) (pe_mt0 (pe_get T.cl_Hand T.na_Hand_line (pv 0)) (m_Line_text T) (hr.mono (by decide)) tkOf))
      (pss_cons (ps_set (i := 2) sc_Hand_fill.nd rfl (Or.inl rfl) (pe_mt0 (pe_get T.cl_Hand T.na_Hand_line (pv 0)) (m_Line_at T) (hr.mono (by decide)) tkOf))
      (pss_cons (ps_if (pt_cmpR op_notNon (pe_get T.cl_Hand T.na_Hand_choice (pv 0)) pe_non (nomark _)) (pss_cons (ps_expr (pe_mt0 (pv 0) (m_Hand_next_choice T) (hr.mono (by decide)) tkOf))
      (pss_one ps_retN)) pss_nil)
      (pss_cons (ps_set (i := 3) sc_Hand_fill.nd rfl (Or.inl rfl) (pe_mt (pe_get T.cl_Hand T.na_Hand_filler (pv 0)) (m_Filler_fitting T) (hr.mono (by decide)) tkOf (pa_cons (pv 1) (pa_cons (pv 2) pa_nil))))
      (pss_cons (ps_set (i := 4) sc_Hand_fill.nd rfl (Or.inl rfl) (pe_mt (pe_get T.cl_Hand T.na_Hand_filler (pv 0)) (m_Filler_start T) (hr.mono (by decide)) tkOf (pa_cons (pv 1) (pa_cons (pv 2) pa_nil))))
      (pss_cons (ps_set (i := 5) sc_Hand_fill.nd rfl (Or.inl rfl) (pe_mt (pe_get T.cl_Hand T.na_Hand_filler (pv 0)) (m_Filler_common T) (hr.mono (by decide)) tkOf (pa_cons (pv 1) (pa_cons (pv 2) pa_nil))))
      (pss_one (ps_if (pt_cmpR op_eq (pe_callB (call_lnK (K := K) rfl) rfl T.n_len boot_len (pa_cons (pv 3) pa_nil)) pe_int (nomark _)) (pss_one (ps_expr (pe_mt (pv 0) (m_Hand_filled T) (hr.mono (by decide)) tkOf (pa_cons (pv 4) (pa_cons (pv 2) (pa_cons (pe_op op_addS (pe_ix (ix_listK (K := K) rfl) (pv 3) pe_int (fun _ _ => rfl)) pe_str) pa_nil)))))) (pss_one (ps_if (pt_cmpR op_ne (pv 5) (pe_slice sl_str (pv 1) (po_some (pv 4)) (po_some (pv 2))) (nomark _)) (pss_one (ps_expr (pe_mt (pv 0) (m_Hand_filled T) (hr.mono (by decide)) tkOf (pa_cons (pv 4) (pa_cons (pv 2) (pa_cons (pv 5) pa_nil)))))) (pss_one (ps_if (pt_trK (K := K) rfl (pv 3)) (pss_one (ps_put T.cl_Hand T.na_Hand_choice (pv 0) (pe_tup (pa_cons (pv 4) (pa_cons (pe_op op_cat (pe_lst (pa_cons (pe_slice sl_str (pv 1) (po_some (pv 4)) (po_some (pv 2))) pa_nil)) (pv 3)) (pa_cons pe_int pa_nil)))))) pss_nil)))))))))))), ?_⟩
    have ho := h.ob
    obtain ⟨dl, hol⟩ := h.li.ob
    obtain ⟨df, hof⟩ := h.fi.ob
    have ok := hO.li.ok.text
    have pl := hO.li.ok.caret
    have l4 := okText_len ok
    have e := len_tl Z.line.now
    have hx : Z.line.now.length < sizeLine := by rw [sizeLine_eq]; omega
    have hx' : Z.line.now.length ≤ sizeLine := Nat.le_of_lt hx
    walk_at "z"
    refine ⟨A.pl, A.lb, A.ll, Z.line, rfl, h.li, ?_⟩
    walk_at "z"
    refine ⟨A.pl, A.lb, A.ll, Z.line, rfl, h.li, ?_⟩
    unfold HS.fill at k
    cases hc : Z.choice with
    | some c =>
      obtain ⟨r, l, e1, e2, e3, e4⟩ : ChAt H A.cv A.cfp (some c) := hc ▸ h.ch
      unfold handF at ho
      rw [e1] at ho
      rw [hc] at k
      dsimp only at k
      walk_at "z"
      refine ⟨p, A, Z, c, rfl, h, hO, hn, hc, fun H1 A1 h1 m1 => ?_⟩
      walk_at "z"
      exact k _ A1 h1 m1
    | none =>
      obtain ⟨e1, e2⟩ : ChAt H A.cv A.cfp none := hc ▸ h.ch
      unfold handF at ho
      rw [e1] at ho
      rw [hc] at k
      dsimp only at k
      have hw4 : ∀ w ∈ Z.ws, w.length ≤ 400 := fun w hw => okText_len (hO.wo w hw)
      have hwl : Z.ws.length < 1000 := by have := hO.wl; omega
      walk_at "z"
      refine ⟨A.pf, A.fl, Z.ws, _, _, rfl, h.fi, hwl, hx, fun _ _ H1 sr hsr s1 h1sr => ?_, fun z => (by rw [ok] at z; cases z), fun _ z => absurd pl z⟩
      have hd1 := h.same s1
      have ho1 := s1 _ _ ho
      have hof1 := s1 _ _ hof
      walk_at "z"
      refine ⟨A.pf, _, _, rfl, hx, fun _ _ H2 s2 => ?_, fun z => (by rw [ok] at z; cases z), fun _ z => absurd pl z⟩
      have hd2 := hd1.same s2
      have ho2 := s2 _ _ ho1
      have hof2 := s2 _ _ hof1
      have h2sr := s2 _ _ h1sr
      walk_at "z"
      refine ⟨A.pf, A.fl, Z.ws, _, _, rfl, hd2.fi, hwl, hw4, hx, fun _ _ H3 s3 => ?_, fun z => (by rw [ok] at z; cases z), fun _ z => absurd pl z⟩
      have hd3 := hd2.same s3
      have ho3 := s3 _ _ ho2
      have h3sr := s3 _ _ h2sr
      have m3 : Mq H H3 p A A := Mq.same (Same.trans (Same.trans s1 s2) s3)
      have s03 := Same.trans (Same.trans s1 s2) s3
      unfold LineS.place at pl
      have hil : Z.line.caret.toNat ≤ (tl Z.line.now).length := by omega
      have fs := fStart_le (l := tl Z.line.now) (a := Z.line.caret.toNat)
      have ecut : cutS Z.line.now (some ((fStart (tl Z.line.now) Z.line.caret.toNat : Nat) : Int)) (some Z.line.caret) = fPart Z.line.now Z.line.caret.toNat := by
        have := cut_part hil
        rw [show ((Z.line.caret.toNat : Nat) : Int) = Z.line.caret by omega] at this
        exact this
      have fo : ∀ t ∈ fFit Z.ws (fPart Z.line.now Z.line.caret.toNat), okText t = true := fun t ht => hO.wo t (List.mem_filter.mp ht).1
      have fl : (fFit Z.ws (fPart Z.line.now Z.line.caret.toNat)).length < 1000 := Nat.lt_of_le_of_lt (List.length_filter_le _ _) hwl
      have po : okText (fPart Z.line.now Z.line.caret.toNat) = true := by
        have e2 : fPart Z.line.now Z.line.caret.toNat = subS Z.line.now (fStart (tl Z.line.now) Z.line.caret.toNat : Nat) (Z.line.caret.toNat : Nat) := by
          unfold fPart subS
          congr 1
        rw [e2]; exact sub_ok ok
      have co : (tl (fCommon (fFit Z.ws (fPart Z.line.now Z.line.caret.toNat)) (fPart Z.line.now Z.line.caret.toNat))).all okc = true ∧ (fCommon (fFit Z.ws (fPart Z.line.now Z.line.caret.toNat)) (fPart Z.line.now Z.line.caret.toNat)).length ≤ 400 := by
        unfold fCommon
        split
        · exact ⟨okText_all po, okText_len po⟩
        · rename_i s0 r heq
          have o0 := fo s0 (by rw [heq]; simp)
          have l0 := okText_len o0
          have e0 := len_tl s0
          refine ⟨?_, by rw [len_S, List.length_take]; omega⟩
          rw [tl_S]
          exact List.all_eq_true.mpr fun c hc => List.all_eq_true.mp (okText_all o0) c (List.mem_of_mem_take hc)
      walk_at "z"
      rw [List.length_map]
      generalize hP : fPart Z.line.now Z.line.caret.toNat = part at *
      generalize hF : fFit Z.ws part = F at *
      generalize fCommon F part = cm at *
      refine ite_b (fun g1 => ?_) (fun g1 => ?_)
      · have g1' : F.length = 1 := by simp at g1; omega
        rw [if_pos g1'] at k
        have g0 : F[0]? = some (F.getD 0 "") := by rw [List.getD_eq_getElem?_getD, List.getElem?_eq_getElem (by omega)]; rfl
        have o0 := fo _ (List.mem_of_getElem? g0)
        have l0 := okText_len o0
        walk_at "z"
        refine z_ixL (SqL.of h3sr) (atI_nat (j := 0) (by rw [List.getElem?_map, g0]; rfl)) ?_
        have hsum : (F.getD 0 "").length + (Str.ofString " ").length ≤ sizeLine := by rw [sizeLine_eq]; show _ + 1 ≤ _; omega
        walk_at "z"
        refine ⟨p, A, Z, _, _, _, rfl, hd3, hO.li, hn, by omega, by omega, pl.2, by rw [tl_app, List.all_append, okText_all o0]; rfl, by rw [len_app]; show _ + 1 ≤ _; omega, fun H4 A4 _ h4 m4 => ?_⟩
        walk_at "z"
        exact k _ A4 h4 (m3.trans m4)
      · have g1' : ¬ F.length = 1 := by simp at g1; omega
        rw [if_neg g1'] at k
        walk_at "z"
        rw [ecut]
        refine ite_b (fun g2 => ?_) (fun g2 => ?_)
        · have g2' : cm ≠ part := by simpa using g2
          rw [if_pos g2'] at k
          walk_at "z"
          refine ⟨p, A, Z, _, _, _, rfl, hd3, hO.li, hn, by omega, by omega, pl.2, co.1, by omega, fun H4 A4 _ h4 m4 => ?_⟩
          walk_at "z"
          exact k _ A4 h4 (m3.trans m4)
        · have g2' : ¬ cm ≠ part := by simpa using g2
          rw [if_neg g2'] at k
          walk_at "z"
          cases F with
          | nil =>
            rw [if_neg (by simp)] at k
            walk_at "z"
            exact k _ A hd3 m3
          | cons t0 r0 =>
            rw [if_pos (by simp)] at k
            have fl' : r0.length < 1000 := by rw [List.length_cons] at fl; omega
            walk_at "z"
            rw [ecut]
            walk_at "z"
            intro l1 hl1
            walk_at "z"
            intro l2 hl2
            walk_at "z"
            intro r4 hr4
            have s4 : Same H3 (upd (upd (upd H3 l1 (.lst [.str part])) l2 (.lst ([V.str part] ++ (t0 :: r0).map V.str))) r4 (.tup [.int (fStart (tl Z.line.now) Z.line.caret.toNat : Nat), .ref l2, .int 0])) := by walk_at "sa"
            have hd4 := hd3.same s4
            have hl4 : (upd (upd (upd H3 l1 (.lst [.str part])) l2 (.lst ([V.str part] ++ (t0 :: r0).map V.str))) r4 (.tup [.int (fStart (tl Z.line.now) Z.line.caret.toNat : Nat), .ref l2, .int 0])) l2 = some (.lst ((part :: t0 :: r0).map V.str)) := by walk_at "h"
            have hr4' : (upd (upd (upd H3 l1 (.lst [.str part])) l2 (.lst ([V.str part] ++ (t0 :: r0).map V.str))) r4 (.tup [.int (fStart (tl Z.line.now) Z.line.caret.toNat : Nat), .ref l2, .int 0])) r4 = some (.tup [.int (fStart (tl Z.line.now) Z.line.caret.toNat : Nat), .ref l2, .int 0]) := upd_same
            have fr2 : H3 l2 = none := (un_fresh hl2).2
            generalize upd (upd (upd H3 l1 _) l2 _) r4 _ = H4 at s4 hd4 hl4 hr4' ⊢
            have ho4 := hd4.ob
            walk_at "z"
            have nx : ∀ y ∈ [l2], y ∉ A.X p := fun y hy => by rw [List.mem_singleton.mp hy]; exact hd3.fresh fr2
            have h5 := hd4.put_choice (v := .ref r4) (fp := [l2]) (q := some ⟨(fStart (tl Z.line.now) Z.line.caret.toNat : Nat), part :: t0 :: r0, 0⟩) ⟨r4, l2, rfl, rfl, hr4', hl4⟩ nx
            refine k _ _ h5 ⟨⟨Fr.upd (Fr.same (Same.trans s03 s4)) h.p_mem, fun y hy => ?_⟩, rfl⟩
            rcases fl_set (i := 9) (Bs := A.bs p) (F' := [l2]) hy with z | z
            · exact .inl z
            · rw [List.mem_singleton.mp z]; exact .inr (fresh_of s03 fr2)
end

theorem sc_Hand_searched : FnScope ["self", "key", "search"] ["self", "key"] (defScope s_Hand_searched) := ⟨rfl, rfl, rfl, by decide +kernel, rfl, by decide +kernel, by decide +kernel⟩
section
variable {P : Program} {w : World} {K : PySem.W.Frag} {mg : Str → Option Value} {base : Heap}
theorem SrObj.ne {K : PySem.W.Frag} {H : Hp} {ps st : Addr} {q : SrchS} (R : SrObj K H ps st q) : st ≠ ps := by
  obtain ⟨⟨dx, r, hp, _⟩, rs, h1, _⟩ := R
  exact ne_of h1 hp (by intro z; cases z)
theorem SrObj.put {K : PySem.W.Frag} {H : Hp} {ps st st' dx r : Addr} {q q' : SrchS} {fs : List (Str × V)} (R : SrObj K H ps st q) (hp : H ps = some (.ins (He.ga K "Search") dx (srF r q.spot q.part st))) (hP : PicAt H r q.was) (ht : TrailAt H st' q'.trail) (hn : st' ≠ ps) (e : fs = srF r q'.spot q'.part st') (ew : q'.was = q.was) : SrObj K (upd H ps (.ins (He.ga K "Search") dx fs)) ps st' q' := by
  have f : Fr [ps] H (upd H ps (.ins (He.ga K "Search") dx fs)) := Fr.upd Fr.refl (by simp)
  have nt : Nt H [ps] := .cons (nt_ins hp) nt_nil
  exact ⟨⟨dx, r, by rw [upd_same, e], by rw [ew]; exact hP.fr f nt⟩, ht.fr f nt (not_mem1 hn)⟩
def sp_Hand_searched (K : PySem.W.Frag) : Sp := fun vs H Q _ => ∃ (p : Addr) (A : HA) (Z : HS) (q : SrchS) (key : Str), vs = [.ref p, .str key] ∧ HandAt K H p A Z ∧ Z.Ok ∧ Z.n ≤ 90000 ∧ Z.srch = some q ∧ key.length ≤ 400 ∧ ∀ H' A', HandAt K H' p A' (Z.searched q key).2 → Mq H H' p A A' → Q (.bl (Z.searched q key).1) H'
theorem m_Hand_searched (T : Tx K mg) : Mt P w K mg base (He.ga K "Hand") "searched" 7 ["self", "key"] (sp_Hand_searched K) := by
  obtain ⟨fd, F⟩ := T.c.d.def_ 79 (d := d_Hand_searched) rfl
  refine ⟨_, fd, F.ok (CX := L2.CX P w) sc_Hand_searched (fun vs H Q E h => ?len) (fun cdv A outer s H vs Q E hr h => ?body), T.me_Hand_searched, T.cl_Hand, F.bindsN fun _ _ _ _ _ _ us hl => match us, hl with | [_, _], _ => rfl⟩
  case len => obtain ⟨p, A, Z, q, key, rfl, h, hO, hn, hs, hkl, k⟩ := h; rfl
  case body =>
    obtain ⟨p, A, Z, q, key, rfl, h, hO, hn, hs, hkl, k⟩ := h
    refine ⟨_, (pss_cons (ps_set (i := 2) sc_Hand_searched.nd rfl (Or.inl rfl) (pe_get T.cl_Hand T.na_Hand_search (pv 0)))
      (Evl.pss_cut (ps_if (pt_val (pe_fn (f_is_sign T) (hr.mono (by decide)) tkOf (pa_cons (pv 1) pa_nil))) (pss_cons (ps_put T.cl_Search T.na_Search_part (pv 2) (pe_op op_addS (pe_get T.cl_Search T.na_Search_part (pv 2)) (pv 1)))
      (pss_one (ps_expr (pe_mt (pv 2) (m_Search_note T) (hr.mono (by decide)) tkOf (pa_cons (pe_mt (pe_get T.cl_Hand T.na_Hand_history (pv 0)) (m_History_find T) (hr.mono (by decide)) tkOf (pa_cons (pe_get T.cl_Search T.na_Search_part (pv 2)) (pa_cons (pe_mt0 (pv 2) (m_Search_here T) (hr.mono (by decide)) tkOf) pa_nil))) (pa_cons pe_bl pa_nil)))))) (pss_one (ps_if (pt_cmpR op_eq (pv 1) pe_str (nomark _)) (pss_one (ps_expr (pe_mt (pv 2) (m_Search_note T) (hr.mono (by decide)) tkOf (pa_cons (pe_mt (pe_get T.cl_Hand T.na_Hand_history (pv 0)) (m_History_find T) (hr.mono (by decide)) tkOf (pa_cons (pe_get T.cl_Search T.na_Search_part (pv 2)) (pa_cons (pe_op op_sub (pe_mt0 (pv 2) (m_Search_here T) (hr.mono (by decide)) tkOf) pe_int) pa_nil))) (pa_cons pe_bl pa_nil))))) (pss_one (ps_if (pt_cmpR op_eq (pv 1) pe_str (nomark _)) (pss_cons (ps_put T.cl_Search T.na_Search_part (pv 2) (pe_slice sl_str (pe_get T.cl_Search T.na_Search_part (pv 2)) po_none (po_some (pe_un un_neg pe_int))))
      (pss_one (ps_put T.cl_Search T.na_Search_trail (pv 2) (pe_ifExp (pt_cmpR op_gt (pe_callB (call_lnK (K := K) rfl) rfl T.n_len boot_len (pa_cons (pe_get T.cl_Search T.na_Search_trail (pv 2)) pa_nil)) pe_int (nomark _)) (pe_slice (sl_listK (K := K) rfl) (pe_get T.cl_Search T.na_Search_trail (pv 2)) po_none (po_some (pe_un un_neg pe_int))) (pe_get T.cl_Search T.na_Search_trail (pv 2)))))) (pss_one (ps_if (pt_cmpR op_eq (pv 1) pe_str (nomark _)) (pss_cons (ps_put T.cl_Hand T.na_Hand_search (pv 0) pe_non)
      (pss_cons (ps_expr (pe_mt (pv 0) (m_Hand_load T) (hr.mono (by decide)) tkOf (pa_cons (pe_ix (ix_tupK (K := K) rfl) (pe_get T.cl_Search T.na_Search_was (pv 2)) pe_int (fun _ _ => rfl)) pa_nil)))
      (pss_cons (ps_expr (pe_mt (pe_get T.cl_Hand T.na_Hand_line (pv 0)) (m_Line_show T) (hr.mono (by decide)) tkOf (pa_cons (pe_get T.cl_Search T.na_Search_was (pv 2)) pa_nil)))
      (pss_cons (ps_expr (pe_mt (pe_get T.cl_Hand T.na_Hand_history (pv 0)) (m_History_go T) (hr.mono (by decide)) tkOf (pa_cons (pe_get T.cl_Search T.na_Search_spot (pv 2)) pa_nil)))
      (pss_cons (ps_put T.cl_Hand T.na_Hand_last_cut (pv 0) pe_bl)
      (pss_one (ps_ret pe_bl))))))) (pss_cons (ps_put T.cl_Hand T.na_Hand_search (pv 0) pe_non)
      (pss_one (ps_ret pe_bl))))))))))
      (Evl.pss_cut (ps_if (PW.pt (pw_or (pt_cmpR op_eq (pv 1) pe_str (nomark _)) (pw_or1 (pt_not (pt_val (pe_mt0 (pv 2) (m_Search_is_lost T) (hr.mono (by decide)) tkOf)))))) (pss_one (ps_expr (pe_mt0 (pv 0) (m_Hand_show_found T) (hr.mono (by decide)) tkOf))) pss_nil)
      (pss_cons (ps_put T.cl_Hand T.na_Hand_last_cut (pv 0) pe_bl)
      (pss_one (ps_ret pe_bl)))))), ?_⟩
    have ho := h.ob
    obtain ⟨ps, st, e1, e2, R⟩ : SrAt K H A.sv A.sfp (some q) := hs ▸ h.sr
    obtain ⟨⟨dx, r, hp, hP⟩, htr⟩ := id R
    obtain ⟨S0, hy, hc⟩ := hO.sr q hs
    have hkx : key.length ≤ sizeLine := by rw [sizeLine_eq]; omega
    have hfp : ∀ y ∈ [ps], y ∈ A.sfp := fun y hy => by rw [e2, List.mem_singleton.mp hy]; simp
    unfold handF at ho
    rw [e1] at ho
    walk_at "z"
    refine z_cut (fun σ' H' => σ' = [some (.ref p), some (.str key), some (.ref ps)] ∧ ∃ (A1 : HA) (q' : SrchS), A1.sv = .ref ps ∧ HandAt K H' p A1 { Z with srch := some q' } ∧ SOk q' Z.hist.kept (Z.n + 1) ∧ Mq H H' p A A1 ∧ Z.searched q key = (true, Z.seek q' (decide (key = "rub")))) ?_ ?_
    · walk_at "z"
      refine ⟨key, rfl, hkx, ?_⟩
      walk_at "z"
      obtain ⟨dh, hoh⟩ := h.hi.ob
      have sl := S0.pl
      have stl := S0.tl
      have hl1 := HS.here_le S0
      have hkl1 := hO.hi.l
      have hxp : q.part.length ≤ sizeLine := by rw [sizeLine_eq]; omega
      refine ite_b (fun g => ?_) (fun g => ?_)
      · obtain ⟨c, hkc, oc⟩ := sign_len g
        have hk1 : key.length = 1 := by rw [hkc]; rfl
        have hsz : q.part.length + key.length ≤ sizeLine := by rw [sizeLine_eq]; omega
        walk_at "z"
        have R1 : SrObj K (upd H ps (.ins (He.ga K "Search") dx (putF "part" (.str (q.part ++ key)) (srF r q.spot q.part st)))) ps st { q with part := q.part ++ key } := R.put hp hP htr R.ne rfl rfl
        have f1 : Fr A.sfp H (upd H ps (.ins (He.ga K "Search") dx (putF "part" (.str (q.part ++ key)) (srF r q.spot q.part st)))) := Fr.upd Fr.refl (hfp ps (by simp))
        obtain ⟨h1, m1⟩ := h.sought (fp := A.sfp) (q := some { q with part := q.part ++ key }) f1 ⟨ps, st, e1, e2, R1⟩ nw_refl
        generalize upd H ps _ = H1 at R1 f1 h1 m1 ⊢
        obtain ⟨⟨dx1, r1, hp1, hP1⟩, htr1⟩ := id R1
        clear ho hoh hp
        have ho := h1.ob
        obtain ⟨dh, hoh⟩ := h1.hi.ob
        unfold handF at ho
        rw [e1] at ho
        walk_at "z"
        refine ⟨ps, st, _, rfl, R1, S0.ne, ?_⟩
        walk_at "z"
        refine ⟨A.ph, A.hk, A.hs, 50, _, _, _, _, _, rfl, h1.hi, by show Z.hist.kept.length ≤ _; omega, by have : SrchS.here { q with part := q.part ++ key } = q.here := rfl; omega, by have : SrchS.here { q with part := q.part ++ key } = q.here := rfl; omega, ?_⟩
        walk_at "z"
        refine ⟨ps, st, _, findH Z.hist.kept (q.part ++ key) q.here, true, rfl, R1, S0.ne, by show q.trail.length ≤ _; omega, fun H2 st2 hst2 R2 f2 => ?_⟩
        obtain ⟨h2, m2⟩ := h1.sought (fp := [ps, st2]) (q := some (SrchS.note { q with part := q.part ++ key } (findH Z.hist.kept (q.part ++ key) q.here) true)) (f2.mono hfp) ⟨ps, st2, e1, rfl, R2⟩ (fun y hy => by
          simp only [List.mem_cons, List.not_mem_nil, or_false] at hy
          rcases hy with rfl | rfl
          · exact .inl (hfp y (by simp))
          · exact .inr hst2)
        walk_at "z"
        have eS : Z.searched q key = (true, Z.seek (({ q with part := q.part ++ key } : SrchS).note (findH Z.hist.kept (q.part ++ key) q.here) true) false) := by unfold HS.searched; rw [if_pos g]
        have ok2 : SOk (({ q with part := q.part ++ key } : SrchS).note (findH Z.hist.kept (q.part ++ key) q.here) true) Z.hist.kept (Z.n + 1) := by
          refine HS.note_ok (g := (q.here : Int)) (q := { q with part := q.part ++ key }) ⟨S0.was, S0.spot, S0.ne, Nat.le_succ_of_le S0.tl, ?_, ?_, S0.es⟩ S0.tl
          · show (q.part ++ key).length ≤ _
            rw [len_app]; omega
          · show plainS (q.part ++ key) = true
            have := S0.pp
            unfold plainS at *
            rw [tl_app, List.all_append, this, hkc]
            show (true && (decide (c < 128) && true)) = true
            rw [decide_eq_true (okc_lt oc)]; rfl
        refine ⟨rfl, { A with sfp := [ps, st2] }, _, e1, h2, ok2, m1.trans m2, ?_⟩
        rw [eS, decide_eq_false (sign_no g (by decide))]
      · have esg : isSign key = false := g
        walk_at "z"
        refine ite_b (fun g1 => ?_) (fun g1 => ?_)
        · have g1' : key = "search" := by simpa using g1
          have eS : Z.searched q key = (true, Z.seek (q.note (findH Z.hist.kept q.part ((q.here : Int) - 1)) false) false) := by unfold HS.searched; rw [if_neg (by rw [esg]; exact Bool.false_ne_true), if_pos g1']
          walk_at "z"
          refine ⟨ps, st, q, rfl, R, S0.ne, ?_⟩
          walk_at "z"
          refine ⟨A.ph, A.hk, A.hs, 50, _, _, _, _, _, rfl, h.hi, by omega, by omega, by omega, ?_⟩
          walk_at "z"
          refine ⟨ps, st, q, findH Z.hist.kept q.part ((q.here : Int) - 1), false, rfl, R, S0.ne, by omega, fun H2 st2 hst2 R2 f2 => ?_⟩
          obtain ⟨h2, m2⟩ := h.sought (fp := [ps, st2]) (q := some (q.note (findH Z.hist.kept q.part ((q.here : Int) - 1)) false)) (f2.mono hfp) ⟨ps, st2, e1, rfl, R2⟩ (fun y hy => by
            simp only [List.mem_cons, List.not_mem_nil, or_false] at hy
            rcases hy with rfl | rfl
            · exact .inl (hfp y (by simp))
            · exact .inr hst2)
          walk_at "z"
          refine ⟨rfl, { A with sfp := [ps, st2] }, _, e1, h2, HS.note_ok (HS.SOk.mono S0 (Nat.le_succ _)) S0.tl, m2, ?_⟩
          rw [eS, g1']; rfl
        · have g1' : ¬ key = "search" := by simpa using g1
          walk_at "z"
          refine ite_b (fun g2 => ?_) (fun g2 => ?_)
          · have g2' : key = "rub" := by simpa using g2
            have eS : Z.searched q key = (true, Z.seek { q with part := S (tl q.part).dropLast, trail := if 1 < q.trail.length then q.trail.dropLast else q.trail } true) := by unfold HS.searched; rw [if_neg (by rw [esg]; exact Bool.false_ne_true), if_neg g1', if_pos g2']
            have ok2 : SOk { q with part := S (tl q.part).dropLast, trail := if 1 < q.trail.length then q.trail.dropLast else q.trail } Z.hist.kept (Z.n + 1) := by
              have el : ∀ e ∈ (if 1 < q.trail.length then q.trail.dropLast else q.trail), e ∈ q.trail := fun e he => by
                split at he
                · exact List.dropLast_subset _ he
                · exact he
              refine ⟨S0.was, S0.spot, ?_, ?_, ?_, ?_, fun e he => S0.es e (el e he)⟩
              · show (if 1 < q.trail.length then q.trail.dropLast else q.trail) ≠ []
                split
                · intro z
                  have := congrArg List.length z
                  rw [List.length_dropLast, List.length_nil] at this
                  omega
                · exact S0.ne
              · show (if 1 < q.trail.length then q.trail.dropLast else q.trail).length ≤ _
                split
                · rw [List.length_dropLast]; omega
                · omega
              · have e := len_tl q.part
                show (S (tl q.part).dropLast).length ≤ _
                rw [len_S, List.length_dropLast]; omega
              · have := S0.pp
                show plainS (S (tl q.part).dropLast) = true
                unfold plainS at *
                rw [tl_S]
                exact List.all_eq_true.mpr fun c hc => List.all_eq_true.mp this c (List.dropLast_subset _ hc)
            walk_at "z"
            rw [cutS_eq, cutL_lastOff]
            walk_at "z"
            have R1 : SrObj K (upd H ps (.ins (He.ga K "Search") dx (putF "part" (.str (S (tl q.part).dropLast)) (srF r q.spot q.part st)))) ps st { q with part := S (tl q.part).dropLast } := R.put hp hP htr R.ne rfl rfl
            have f1 : Fr A.sfp H (upd H ps (.ins (He.ga K "Search") dx (putF "part" (.str (S (tl q.part).dropLast)) (srF r q.spot q.part st)))) := Fr.upd Fr.refl (hfp ps (by simp))
            obtain ⟨h1, m1⟩ := h.sought (fp := A.sfp) (q := some { q with part := S (tl q.part).dropLast }) f1 ⟨ps, st, e1, e2, R1⟩ nw_refl
            generalize upd H ps _ = H1 at R1 f1 h1 m1 ⊢
            obtain ⟨⟨dx1, r1, hp1, hP1⟩, htr1⟩ := id R1
            obtain ⟨rs, hst, hpr⟩ := id htr1
            have hrl := paired_len hpr
            have hrl' : rs.length = q.trail.length := hrl
            clear ho hoh hp
            walk_at "z"
            rw [List.length_map]
            refine ite_b (fun g4 => ?_) (fun g4 => ?_)
            · have g4' : 1 < q.trail.length := by have := of_decide_eq_true g4; omega
              rw [if_pos g4'] at eS ok2
              walk_at "z"
              intro l0 hl0
              have ec : cutV (rs.map V.ref) none (some (-1)) = rs.dropLast.map V.ref := by rw [cutV_eq, cutL_map, cutL_lastOff]
              rw [ec]
              have s2 := Same.new (Same.refl H1) hl0 (o := .lst (rs.dropLast.map V.ref))
              have hpd : Paired (EntAt H1) rs.dropLast q.trail.dropLast := by
                obtain ⟨es', e, he⟩ : ∃ es' e, q.trail = es' ++ [e] := by
                  rcases List.eq_nil_or_concat q.trail with z | ⟨l, x, z⟩
                  · exact absurd z S0.ne
                  · exact ⟨l, x, by rw [z, List.concat_eq_append]⟩
                have hpr' : Paired (EntAt H1) rs q.trail := hpr
                rw [he] at hpr' ⊢
                obtain ⟨rs', r', rfl, h5, _⟩ := paired_last hpr'
                rw [List.dropLast_concat, List.dropLast_concat]
                exact h5
              have T2 : TrailAt (upd H1 l0 (.lst (rs.dropLast.map V.ref))) l0 q.trail.dropLast := ⟨_, upd_same, Paired.mapP hpd fun _ _ z => s2 _ _ z⟩
              have hp2 := s2 _ _ hp1
              have hP2 := hP1.same s2
              have h2 := h1.same s2
              have nl0 : l0 ≠ ps := (ne_of_none hp1 hl0).symm
              have hR2 : SrObj K (upd H1 l0 (.lst (rs.dropLast.map V.ref))) ps st { q with part := S (tl q.part).dropLast } := ⟨⟨dx1, r1, hp2, hP2⟩, htr1.fr (S := []) (Fr.same s2) nt_nil (by simp)⟩
              generalize upd H1 l0 _ = H2 at s2 T2 hp2 hP2 h2 hR2 ⊢
              walk_at "z"
              have R3 := hR2.put (q' := { q with part := S (tl q.part).dropLast, trail := q.trail.dropLast }) (st' := l0) hp2 hP2 T2 nl0 rfl rfl
              obtain ⟨h3, m3⟩ := h1.sought (fp := [ps, l0]) (q := some { q with part := S (tl q.part).dropLast, trail := q.trail.dropLast }) ((Fr.same s2).trans (Fr.upd Fr.refl (hfp ps (by simp)))) ⟨ps, l0, e1, rfl, R3⟩ (fun y hy => by
                simp only [List.mem_cons, List.not_mem_nil, or_false] at hy
                rcases hy with rfl | rfl
                · exact .inl (hfp y (by simp))
                · exact .inr hl0)
              refine ⟨rfl, { A with sfp := [ps, l0] }, _, e1, h3, ok2, m1.trans m3, ?_⟩
              rw [eS, decide_eq_true g2']
            · have g4' : ¬ 1 < q.trail.length := by have := of_decide_eq_false g4; omega
              rw [if_neg g4'] at eS ok2
              walk_at "z"
              have R3 := R1.put (q' := { q with part := S (tl q.part).dropLast }) (st' := st) hp1 hP1 htr1 R1.ne rfl rfl
              obtain ⟨h3, m3⟩ := h1.sought (fp := A.sfp) (q := some { q with part := S (tl q.part).dropLast }) (Fr.upd Fr.refl (hfp ps (by simp))) ⟨ps, st, e1, e2, R3⟩ nw_refl
              refine ⟨rfl, A, _, e1, h3, ok2, m1.trans m3, ?_⟩
              rw [eS, decide_eq_true g2']
          · have g2' : ¬ key = "rub" := by simpa using g2
            walk_at "z"
            refine ite_b (fun g3 => ?_) (fun g3 => ?_)
            · have g3' : key = "cancel" := by simpa using g3
              have eS : Z.searched q key = (true, { ({ Z with srch := none } : HS).back q with cut := false, n := Z.n + 1 }) := by unfold HS.searched; rw [if_neg (by rw [esg]; exact Bool.false_ne_true), if_neg g1', if_neg g2', if_pos g3']
              rw [eS] at k
              unfold HS.back at k
              have ho2 := h.ob
              clear ho
              walk_at "z"
              have h1 := h.put_search (v := .non) (fp := []) (q := none) ⟨rfl, rfl⟩ (fun _ z => nomatch z)
              obtain ⟨m1, nfp⟩ := h.unsearch
              have nps := nfp ps (hfp ps (by simp))
              have npp : ps ≠ p := fun z => h.apart (i := 8) (j := 0) (by decide) rfl rfl ps (hfp ps (by simp)) (by rw [z]; simp)
              have nrp : r ≠ p := ne_of (hP : H r = _) ho2 (by intro z; cases z)
              have hp1 : (upd H p (.ins (He.ga K "Hand") A.dx (putF "search" .non (handF A Z.cut Z.times)))) ps = some (.ins (He.ga K "Search") dx (srF r q.spot q.part st)) := by rw [upd_ne npp]; exact hp
              have hP1 : PicAt (upd H p (.ins (He.ga K "Hand") A.dx (putF "search" .non (handF A Z.cut Z.times)))) r q.was := by show _ = _; rw [upd_ne nrp]; exact hP
              generalize upd H p _ = H1 at h1 m1 hp1 hP1 ⊢
              clear ho2 hoh
              have hw := S0.was
              have ho := h1.ob
              have hP1' : H1 r = some (.tup [.str q.was.txt, .int q.was.at_, .int q.was.mrk]) := hP1
              walk_at "z"
              refine ⟨p, _, _, q.was.txt, rfl, h1, hw.1, fun H2 A2 c2 h2 m2 => ?_⟩
              obtain ⟨hp2, nps2⟩ := m2.keep nps hp1
              have hP2 : PicAt H2 r q.was := hP1.fr m2.mv.fr h1.wrX.nt
              clear ho
              have ho := h2.ob
              obtain ⟨dl, hol⟩ := h2.li.ob
              walk_at "z"
              refine ⟨A2.pl, A2.lb, A2.ll, r, _, q.was, rfl, h2.li, hP2, fun H3 R3 f3 => ?_⟩
              obtain ⟨h3, m3⟩ := h2.line (f3.mono (by simp [HA.fL])) R3 nw_refl
              obtain ⟨hp3, nps3⟩ := m3.keep nps2 hp2
              clear ho hol
              have ho := h3.ob
              obtain ⟨dh, hoh⟩ := h3.hi.ob
              have hm := hO.hi.m
              have lt : q.spot < Z.hist.shown.length := by have := S0.spot; omega
              walk_at "z"
              refine ⟨A2.ph, A2.hk, A2.hs, 50, _, _, _, _, rfl, h3.hi, fun i y ei hy' H4 R4 g4 => ?_, fun z => absurd ⟨by omega, by show (q.spot : Int) < (Z.hist.shown.length : Int); omega⟩ z⟩
              obtain ⟨h4, m4⟩ := h3.history (q := { Z.hist with spot := q.spot }) (g4.mono (by simp [HA.fH])) R4 nw_refl
              clear ho hoh
              have ho := h4.ob
              walk_at "z"
              have h5 := h4.put_cut false
              exact k _ _ (h5.setN _) ((((m1.trans m2).trans m3).trans m4).trans (h4.mvp _))
            · have g3' : ¬ key = "cancel" := by simpa using g3
              have eS : Z.searched q key = (false, { Z with srch := none, n := Z.n + 1 }) := by unfold HS.searched; rw [if_neg (by rw [esg]; exact Bool.false_ne_true), if_neg g1', if_neg g2', if_neg g3']
              rw [eS] at k
              have ho2 := h.ob
              clear ho
              walk_at "z"
              have h2 := h.put_search (v := .non) (fp := []) (q := none) ⟨rfl, rfl⟩ (fun _ z => nomatch z)
              exact k _ _ (h2.setN _) h.unsearch.1
    clear ho hp hP htr R
    rintro σ' H1 ⟨rfl, A1, q', ev, h1, ok1, m1, eS⟩
    rw [eS] at k
    unfold HS.seek at k
    dsimp only at k
    obtain ⟨ps1, st1, f1, f2, R1⟩ : SrAt K H1 A1.sv A1.sfp (some q') := h1.sr
    obtain rfl : ps = ps1 := by rw [ev] at f1; injection f1
    obtain ⟨⟨dx1, r1, hp1, hP1⟩, htr1⟩ := id R1
    refine z_cut (fun σ' H' => ∃ A2, σ' = [some (.ref p), some (.str key), some (.ref ps)] ∧ HandAt K H' p A2 (if (decide (key = "rub") || !q'.last.lost) = true then ({ Z with srch := some q' } : HS).showFound q' else { Z with srch := some q' }) ∧ Mq H H' p A A2) ?_ ?_
    · have ho := h1.ob
      walk_at "z"
      refine ite_b (fun g => ?_) (fun g => ?_)
      · have g' : key = "rub" := by simpa using g
        rw [decide_eq_true g', Bool.true_or, if_pos rfl]
        walk_at "z"
        refine ⟨p, A1, _, q', rfl, h1, hO.hi, rfl, ok1, fun H2 A2 h2 m2 => ?_⟩
        walk_at "z"
        exact ⟨A2, rfl, h2, m1.trans m2⟩
      · have g' : ¬ key = "rub" := by simpa using g
        rw [decide_eq_false g', Bool.false_or]
        walk_at "z"
        refine ⟨ps, st1, q', rfl, R1, ok1.ne, ?_⟩
        walk_at "z"
        refine ite_b (fun g2 => ?_) (fun g2 => ?_)
        · rw [if_pos g2]
          walk_at "z"
          refine ⟨p, A1, _, q', rfl, h1, hO.hi, rfl, ok1, fun H2 A2 h2 m2 => ?_⟩
          walk_at "z"
          exact ⟨A2, rfl, h2, m1.trans m2⟩
        · rw [if_neg (by rw [g2]; exact Bool.false_ne_true)]
          walk_at "z"
          exact ⟨A1, rfl, h1, m1⟩
    clear h1 m1 f1 f2 R1 hp1 hP1 htr1 ev H1 A1
    rintro σ' H1 ⟨A2, rfl, h1, m1⟩
    have ho := h1.ob
    walk_at "z"
    have h2 := h1.put_cut false
    exact k _ _ (h2.setN _) (m1.trans (h1.mvp _))
end

theorem sc_Hand_other : FnScope ["self", "key", "at", "first", "last"] ["self", "key"] (defScope s_Hand_other) := ⟨rfl, rfl, rfl, by decide +kernel, rfl, by decide +kernel, by decide +kernel⟩
section
variable {P : Program} {w : World} {K : PySem.W.Frag} {mg : Str → Option Value} {base : Heap}
def sp_Hand_other (K : PySem.W.Frag) : Sp := fun vs H Q _ => ∃ (p : Addr) (A : HA) (Z : HS) (key : Str), vs = [.ref p, .str key] ∧ HandAt K H p A Z ∧ Z.Ok ∧ Z.n ≤ 90000 ∧ (Z.srch = none) ∧ ∀ H' A', HandAt K H' p A' (Z.other key) → Mq H H' p A A' → Q .non H'
theorem m_Hand_other (T : Tx K mg) : Mt P w K mg base (He.ga K "Hand") "other" 8 ["self", "key"] (sp_Hand_other K) := by
  obtain ⟨fd, F⟩ := T.c.d.def_ 64 (d := d_Hand_other) rfl
  refine ⟨_, fd, F.ok (CX := L2.CX P w) sc_Hand_other (fun vs H Q E h => ?len) (fun cdv A outer s H vs Q E hr h => ?body), T.me_Hand_other, T.cl_Hand, F.bindsN fun _ _ _ _ _ _ us hl => match us, hl with | [_, _], _ => rfl⟩
  case len => obtain ⟨p, A, Z, key, rfl, h, hO, hn, hsn, k⟩ := h; rfl
  case body =>
    obtain ⟨p, A, Z, key, rfl, h, hO, hn, hsn, k⟩ := h
    refine ⟨_, (pss_one (ps_if (pt_cmpR op_eq (pv 1) pe_str (nomark _)) (pss_one (ps_expr (pe_mt0 (pv 0) (m_Hand_swap T) (hr.mono (by decide)) tkOf))) (pss_one (ps_if (pt_cmpR op_eq (pv 1) pe_str (nomark _)) (pss_one (ps_expr (pe_mt (pe_get T.cl_Hand T.na_Hand_line (pv 0)) (m_Line_put_mark T) (hr.mono (by decide)) tkOf (pa_cons (pe_mt0 (pe_get T.cl_Hand T.na_Hand_line (pv 0)) (m_Line_at T) (hr.mono (by decide)) tkOf) pa_nil)))) (pss_one (ps_if (pt_cmpR op_eq (pv 1) pe_str (nomark _)) (pss_cons (ps_set (i := 2) sc_Hand_other.nd rfl (Or.inl rfl) (pe_mt0 (pe_get T.cl_Hand T.na_Hand_line (pv 0)) (m_Line_at T) (hr.mono (by decide)) tkOf))
      (pss_cons (ps_expr (pe_mt (pe_get T.cl_Hand T.na_Hand_line (pv 0)) (m_Line_go T) (hr.mono (by decide)) tkOf (pa_cons (pe_mt0 (pe_get T.cl_Hand T.na_Hand_line (pv 0)) (m_Line_marked T) (hr.mono (by decide)) tkOf) pa_nil)))
      (pss_one (ps_expr (pe_mt (pe_get T.cl_Hand T.na_Hand_line (pv 0)) (m_Line_put_mark T) (hr.mono (by decide)) tkOf (pa_cons (pv 2) pa_nil)))))) (pss_one (ps_if (pt_cmpR op_eq (pv 1) pe_str (nomark _)) (pss_cons (ps_asg (pe_mt0 (pv 0) (m_Hand_between T) (hr.mono (by decide)) tkOf) (pg_tupK (K := K) (n := 2) rfl rfl (pgs_cons (pg_name (i := 3) sc_Hand_other.nd rfl (Or.inl rfl)) (pgs_cons (pg_name (i := 4) sc_Hand_other.nd rfl (Or.inl rfl)) pgs_nil))))
      (pss_one (ps_expr (pe_mt (pe_get T.cl_Hand T.na_Hand_ring (pv 0)) (m_Ring_push T) (hr.mono (by decide)) tkOf (pa_cons (pe_slice sl_str (pe_mt0 (pe_get T.cl_Hand T.na_Hand_line (pv 0)) (m_Line_text T) (hr.mono (by decide)) tkOf) (po_some (pv 3)) (po_some (pv 4))) pa_nil))))) (pss_one (ps_if (pt_cmpR op_eq (pv 1) pe_str (nomark _)) (pss_cons (ps_expr (pe_mt (pe_get T.cl_Hand T.na_Hand_history (pv 0)) (m_History_keep T) (hr.mono (by decide)) tkOf (pa_cons (pe_mt0 (pe_get T.cl_Hand T.na_Hand_line (pv 0)) (m_Line_text T) (hr.mono (by decide)) tkOf) pa_nil)))
      (pss_one (ps_put T.cl_Hand T.na_Hand_search (pv 0) (pe_mk (mk_Search T) (hr.mono (by decide)) tkOf (pa_cons (pe_mt0 (pe_get T.cl_Hand T.na_Hand_line (pv 0)) (m_Line_picture T) (hr.mono (by decide)) tkOf) (pa_cons (pe_mt0 (pe_get T.cl_Hand T.na_Hand_history (pv 0)) (m_History_here T) (hr.mono (by decide)) tkOf) pa_nil)))))) (pss_one (ps_if (pt_cmpR op_eq (pv 1) pe_str (nomark _)) (pss_one (ps_expr (pe_mt0 (pv 0) (m_Hand_fill T) (hr.mono (by decide)) tkOf))) (pss_one (ps_if (pt_cmpR op_eq (pv 1) pe_str (nomark _)) (pss_one (ps_expr (pe_mt0 (pv 0) (m_Hand_enter T) (hr.mono (by decide)) tkOf))) (pss_one (ps_if (pt_cmpR op_ne (pe_mt0 (pe_get T.cl_Hand T.na_Hand_line (pv 0)) (m_Line_text T) (hr.mono (by decide)) tkOf) pe_str (nomark _)) (pss_one (ps_expr (pe_mt (pe_get T.cl_Hand T.na_Hand_line (pv 0)) (m_Line_change T) (hr.mono (by decide)) tkOf (pa_cons pe_int (pa_cons (pe_callB (call_lnK (K := K) rfl) rfl T.n_len boot_len (pa_cons (pe_mt0 (pe_get T.cl_Hand T.na_Hand_line (pv 0)) (m_Line_text T) (hr.mono (by decide)) tkOf) pa_nil)) (pa_cons pe_str (pa_cons pe_int pa_nil))))))) pss_nil)))))))))))))))), ?_⟩
    have ho := h.ob
    obtain ⟨dl, hol⟩ := h.li.ob
    have ok := hO.li.ok.text
    have l4 := okText_len ok
    have hx' : Z.line.now.length ≤ sizeLine := by rw [sizeLine_eq]; omega
    unfold HS.other at k
    walk_at "z"
    refine ite_b (fun g => ?_) (fun g => ?_)
    · have g' : key = "swap" := by simpa using g
      rw [if_pos g'] at k
      walk_at "z"
      refine ⟨p, A, Z, rfl, h, hO.li, hn, fun H1 A1 h1 m1 => ?_⟩
      walk_at "z"
      exact k _ A1 h1 m1
    have g' : ¬ key = "swap" := by simpa using g
    rw [if_neg g'] at k
    clear g g'
    walk_at "z"
    refine ite_b (fun g => ?_) (fun g => ?_)
    · have g' : key = "mark" := by simpa using g
      rw [if_pos g'] at k
      walk_at "z"
      refine ⟨A.pl, A.lb, A.ll, Z.line, rfl, h.li, ?_⟩
      walk_at "z"
      refine ⟨A.pl, A.lb, A.ll, Z.line, _, rfl, h.li, l4, fun _ H1 R1 f1 => ?_, fun z => absurd hO.li.ok.caret z⟩
      obtain ⟨h1, m1⟩ := h.line (f1.mono (by simp [HA.fL])) R1 nw_refl
      walk_at "z"
      exact k _ _ h1 m1
    have g' : ¬ key = "mark" := by simpa using g
    rw [if_neg g'] at k
    clear g g'
    walk_at "z"
    refine ite_b (fun g => ?_) (fun g => ?_)
    · have g' : key = "swapmark" := by simpa using g
      rw [if_pos g'] at k
      walk_at "z"
      refine ⟨A.pl, A.lb, A.ll, Z.line, rfl, h.li, ?_⟩
      walk_at "z"
      refine ⟨A.pl, A.lb, A.ll, Z.line, rfl, h.li, ?_⟩
      walk_at "z"
      refine ⟨A.pl, A.lb, A.ll, Z.line, _, rfl, h.li, l4, fun _ H1 R1 f1 => ?_, fun z => absurd hO.li.ok.mark z⟩
      obtain ⟨h1, m1⟩ := h.line (f1.mono (by simp [HA.fL])) R1 nw_refl
      clear ho hol
      have ho := h1.ob
      obtain ⟨dl, hol⟩ := h1.li.ob
      walk_at "z"
      refine ⟨A.pl, A.lb, A.ll, _, _, rfl, h1.li, l4, fun _ H2 R2 f2 => ?_, fun z => absurd hO.li.ok.caret z⟩
      obtain ⟨h2, m2⟩ := h1.line (f2.mono (by simp [HA.fL])) R2 nw_refl
      walk_at "z"
      exact k _ _ h2 (m1.trans m2)
    have g' : ¬ key = "swapmark" := by simpa using g
    rw [if_neg g'] at k
    clear g g'
    walk_at "z"
    refine ite_b (fun g => ?_) (fun g => ?_)
    · have g' : key = "copymark" := by simpa using g
      rw [if_pos g'] at k
      have c := hO.li.ok.caret
      have mk := hO.li.ok.mark
      unfold LineS.place at c mk
      walk_at "z"
      refine ⟨p, A, Z, rfl, h, fun b hb => ?_⟩
      have s1 := Same.new (Same.refl H) hb (o := .tup [.int (min Z.line.caret Z.line.mark), .int (max Z.line.caret Z.line.mark)])
      have h1 := h.same s1
      clear ho hol
      have ho := h1.ob
      obtain ⟨dl, hol⟩ := h1.li.ob
      obtain ⟨dr, hor⟩ := h1.ri.ob
      walk_at "z"
      refine ⟨A.pl, A.lb, A.ll, Z.line, rfl, h1.li, ?_⟩
      walk_at "z"
      have ec : cutS Z.line.now (some (min Z.line.caret Z.line.mark)) (some (max Z.line.caret Z.line.mark)) = subS Z.line.now (min Z.line.caret Z.line.mark) (max Z.line.caret Z.line.mark) := by rw [cutS_eq, cutL_mid _ (by omega) (by omega)]; rfl
      rw [ec]
      have so := sub_ok (f := min Z.line.caret Z.line.mark) (l := max Z.line.caret Z.line.mark) ok
      have s4 := okText_len so
      refine ⟨A.pr, A.rl, 10, Z.ring.spot, Z.ring.ts, _, rfl, h1.ri, by rw [sizeLine_eq]; omega, by have := hO.ri.l; omega, by decide, fun _ H' l' hl' R' f' => ?_, fun z => (by rw [so] at z; cases z)⟩
      obtain ⟨h2, m2⟩ := h1.ringed (r := ⟨pushR 10 (subS Z.line.now (min Z.line.caret Z.line.mark) (max Z.line.caret Z.line.mark)) Z.ring.ts, 0⟩) (f'.mono (by simp [HA.fR])) R' ((nw_nil.or hl' (by simp [HA.fR])).old (by simp [HA.fR]))
      walk_at "z"
      exact k _ _ h2 ((Mq.same s1).trans m2)
    have g' : ¬ key = "copymark" := by simpa using g
    rw [if_neg g'] at k
    clear g g'
    walk_at "z"
    refine ite_b (fun g => ?_) (fun g => ?_)
    · have g' : key = "search" := by simpa using g
      rw [if_pos g'] at k
      obtain ⟨dh, hoh⟩ := h.hi.ob
      have lt : Z.hist.spot < Z.hist.shown.length := by have := hO.hi.m; have := hO.hi.p; omega
      walk_at "z"
      refine ⟨A.pl, A.lb, A.ll, Z.line, rfl, h.li, ?_⟩
      walk_at "z"
      refine ⟨A.ph, A.hk, A.hs, 50, Z.hist.spot, _, _, Z.line.now, rfl, h.hi, lt, fun H1 R1 f1 => ?_⟩
      obtain ⟨h1, m1⟩ := h.history (q := Z.hist.keep Z.line.now) (f1.mono (by simp [HA.fH])) R1 nw_refl
      clear ho hol hoh
      have ho := h1.ob
      obtain ⟨dl, hol⟩ := h1.li.ob
      obtain ⟨dh, hoh⟩ := h1.hi.ob
      walk_at "z"
      refine ⟨A.pl, A.lb, A.ll, Z.line, rfl, h1.li, fun r hr => ?_⟩
      have s2 := Same.new (Same.refl H1) hr (o := .tup [.str Z.line.now, .int Z.line.caret, .int Z.line.mark])
      have h2 := h1.same s2
      have hP : PicAt (upd H1 r (.tup [.str Z.line.now, .int Z.line.caret, .int Z.line.mark])) r Z.line.pic := upd_same
      generalize upd H1 r _ = H2 at s2 h2 hP ⊢
      clear ho hol hoh
      have ho := h2.ob
      obtain ⟨dh, hoh⟩ := h2.hi.ob
      walk_at "z"
      refine ⟨A.ph, A.hk, A.hs, 50, _, _, _, rfl, h2.hi, ?_⟩
      walk_at "z"
      intro ps dx hps hdx hne
      have s3 : Same H2 (upd (upd H2 dx (.own ps)) ps (.ins (He.ga K "Search") dx [])) := fun b o e => by rw [upd_ne (ne_of_none e hps), upd_ne (ne_of_none e hdx)]; exact e
      refine ⟨ps, dx, r, Z.line.pic, Z.hist.spot, rfl, upd_same, hP.same s3, fun H4 st hst R4 f4 => ⟨rfl, ?_⟩⟩
      have s4 : Same H2 H4 := Fr.drop s3 f4 (by simpa using hps)
      have hst2 : H2 st = none := fresh_of s3 hst
      have h4 := h2.same s4
      clear ho hoh
      have ho := h4.ob
      walk_at "z"
      have nx : ∀ y ∈ [ps, st], y ∉ A.X p := fun y hy => by
        simp only [List.mem_cons, List.not_mem_nil, or_false] at hy
        rcases hy with rfl | rfl
        · exact h2.fresh hps
        · exact h2.fresh hst2
      have h5 := h4.put_search (v := .ref ps) (fp := [ps, st]) (q := some ⟨Z.line.pic, Z.hist.spot, "", [⟨none, false, ""⟩]⟩) ⟨ps, st, rfl, rfl, R4⟩ nx
      have m4 : Mq H H2 p A A := m1.trans (Mq.same s2)
      refine k _ _ h5 (m4.trans ⟨⟨Fr.upd (Fr.same s4) h.p_mem, fun y hy => ?_⟩, rfl⟩)
      rcases fl_set (i := 8) (Bs := A.bs p) (F' := [ps, st]) hy with z | z
      · exact .inl z
      · simp only [List.mem_cons, List.not_mem_nil, or_false] at z
        rcases z with rfl | rfl
        · exact .inr hps
        · exact .inr hst2
    have g' : ¬ key = "search" := by simpa using g
    rw [if_neg g'] at k
    clear g g'
    walk_at "z"
    refine ite_b (fun g => ?_) (fun g => ?_)
    · have g' : key = "fill" := by simpa using g
      rw [if_pos g'] at k
      walk_at "z"
      refine ⟨p, A, Z, rfl, h, hO, hn, fun H1 A1 h1 m1 => ?_⟩
      walk_at "z"
      exact k _ A1 h1 m1
    have g' : ¬ key = "fill" := by simpa using g
    rw [if_neg g'] at k
    clear g g'
    walk_at "z"
    refine ite_b (fun g => ?_) (fun g => ?_)
    · have g' : key = "enter" := by simpa using g
      rw [if_pos g'] at k
      walk_at "z"
      refine ⟨p, A, Z, rfl, h, hO, hn, fun H1 A1 h1 m1 => ?_⟩
      walk_at "z"
      exact k _ A1 h1 m1
    have g' : ¬ key = "enter" := by simpa using g
    rw [if_neg g'] at k
    clear g g'
    unfold LineS.wipe at k
    walk_at "z"
    refine ⟨A.pl, A.lb, A.ll, Z.line, rfl, h.li, ?_⟩
    walk_at "z"
    refine ite_b (fun g => ?_) (fun g => ?_)
    · have g' : ¬ Z.line.now = "" := by simpa using g
      rw [if_neg g'] at k
      have le : (Str.ofString "").length = 0 := rfl
      walk_at "z"
      refine ⟨A.pl, A.lb, A.ll, Z.line, rfl, h.li, ?_⟩
      walk_at "z"
      refine hand_change h hO.li hn (by omega) (by omega) (by omega) empty_ok (by rw [le]; omega) fun H' A' h' m' => ?_
      walk_at "z"
      exact k H' A' h' m'
    · have g' : Z.line.now = "" := by simpa using g
      rw [if_pos g'] at k
      walk_at "z"
      exact k _ A h Mq.refl
end

theorem sc_Hand_once : FnScope ["self", "key"] ["self", "key"] (defScope s_Hand_once) := ⟨rfl, rfl, rfl, by decide +kernel, rfl, by decide +kernel, by decide +kernel⟩
section
variable {P : Program} {w : World} {K : PySem.W.Frag} {mg : Str → Option Value} {base : Heap}
def sp_Hand_once (K : PySem.W.Frag) : Sp := fun vs H Q _ => ∃ (p : Addr) (A : HA) (Z : HS) (key : Str), vs = [.ref p, .str key] ∧ HandAt K H p A Z ∧ Z.Ok ∧ Z.n ≤ 90000 ∧ Z.srch = none ∧ key.length ≤ 400 ∧ ∀ H' A', HandAt K H' p A' (Z.once key) → Mq H H' p A A' → Q .non H'
theorem m_Hand_once (T : Tx K mg) : Mt P w K mg base (He.ga K "Hand") "once" 9 ["self", "key"] (sp_Hand_once K) := by
  obtain ⟨fd, F⟩ := T.c.d.def_ 63 (d := d_Hand_once) rfl
  refine ⟨_, fd, F.ok (CX := L2.CX P w) sc_Hand_once (fun vs H Q E h => ?len) (fun cdv A outer s H vs Q E hr h => ?body), T.me_Hand_once, T.cl_Hand, F.bindsN fun _ _ _ _ _ _ us hl => match us, hl with | [_, _], _ => rfl⟩
  case len => obtain ⟨p, A, Z, key, rfl, h, hO, hn, hsn, hkl, k⟩ := h; rfl
  case body =>
    obtain ⟨p, A, Z, key, rfl, h, hO, hn, hsn, hkl, k⟩ := h
    refine ⟨_, (Evl.pss_cut (ps_if (pt_not (pt_val (pe_fn (f_is_sign T) (hr.mono (by decide)) tkOf (pa_cons (pv 1) pa_nil)))) (pss_one (ps_expr (pe_mt0 (pe_get T.cl_Hand T.na_Hand_line (pv 0)) (m_Line_rest T) (hr.mono (by decide)) tkOf))) pss_nil)
      (pss_one (ps_if (pt_val (pe_fn (f_is_sign T) (hr.mono (by decide)) tkOf (pa_cons (pv 1) pa_nil))) (pss_one (ps_if (pt_cmpR op_lt (pe_callB (call_lnK (K := K) rfl) rfl T.n_len boot_len (pa_cons (pe_mt0 (pe_get T.cl_Hand T.na_Hand_line (pv 0)) (m_Line_text T) (hr.mono (by decide)) tkOf) pa_nil)) (pe_gcon T.c_MOST_TEXT) (nomark _)) (pss_one (ps_expr (pe_mt (pe_get T.cl_Hand T.na_Hand_line (pv 0)) (m_Line_write T) (hr.mono (by decide)) tkOf (pa_cons (pv 1) pa_nil)))) pss_nil)) (pss_one (ps_if (pt_cmpR (op_inK (K := K) rfl) (pv 1) (pe_gref T.g_MOVES) rfl) (pss_one (ps_expr (pe_mt (pe_get T.cl_Hand T.na_Hand_line (pv 0)) (m_Line_go T) (hr.mono (by decide)) tkOf (pa_cons (pe_mt (pv 0) (m_Hand_goal T) (hr.mono (by decide)) tkOf (pa_cons (pv 1) pa_nil)) pa_nil)))) (pss_one (ps_if (pt_cmpR (op_inK (K := K) rfl) (pv 1) (pe_gref T.g_CUTS) rfl) (pss_one (ps_expr (pe_mt (pv 0) (m_Hand_cut T) (hr.mono (by decide)) tkOf (pa_cons (pv 1) pa_nil)))) (pss_one (ps_if (pt_cmpR (op_inK (K := K) rfl) (pv 1) (pe_tup (pa_cons pe_str (pa_cons pe_str pa_nil))) rfl) (pss_one (ps_expr (pe_mt (pv 0) (m_Hand_take T) (hr.mono (by decide)) tkOf (pa_cons (pv 1) pa_nil)))) (pss_one (ps_if (pt_cmpR (op_inK (K := K) rfl) (pv 1) (pe_tup (pa_cons pe_str (pa_cons pe_str pa_nil))) rfl) (pss_one (ps_expr (pe_mt (pv 0) (m_Hand_yank T) (hr.mono (by decide)) tkOf (pa_cons (pv 1) pa_nil)))) (pss_one (ps_if (pt_cmpR (op_inK (K := K) rfl) (pv 1) (pe_tup (pa_cons pe_str (pa_cons pe_str (pa_cons pe_str pa_nil)))) rfl) (pss_one (ps_expr (pe_mt (pv 0) (m_Hand_recase T) (hr.mono (by decide)) tkOf (pa_cons (pv 1) pa_nil)))) (pss_one (ps_if (pt_cmpR (op_inK (K := K) rfl) (pv 1) (pe_tup (pa_cons pe_str (pa_cons pe_str pa_nil))) rfl) (pss_one (ps_expr (pe_mt (pv 0) (m_Hand_undo T) (hr.mono (by decide)) tkOf (pa_cons (pv 1) pa_nil)))) (pss_one (ps_if (pt_cmpR (op_inK (K := K) rfl) (pv 1) (pe_tup (pa_cons pe_str (pa_cons pe_str pa_nil))) rfl) (pss_one (ps_expr (pe_mt (pv 0) (m_Hand_recall T) (hr.mono (by decide)) tkOf (pa_cons (pe_op op_add (pe_mt0 (pe_get T.cl_Hand T.na_Hand_history (pv 0)) (m_History_here T) (hr.mono (by decide)) tkOf) (pe_ifExp (pt_cmpR op_eq (pv 1) pe_str (nomark _)) pe_int (pe_un un_neg pe_int))) pa_nil)))) (pss_one (ps_expr (pe_mt (pv 0) (m_Hand_other T) (hr.mono (by decide)) tkOf (pa_cons (pv 1) pa_nil))))))))))))))))))))), ?_⟩
    have ho := h.ob
    obtain ⟨dl, hol⟩ := h.li.ob
    have hkx : key.length ≤ sizeLine := by rw [sizeLine_eq]; omega
    refine z_cut (fun σ' H' => σ' = [some (.ref p), some (.str key)] ∧ HandAt K H' p A (if isSign key then Z else { Z with line := Z.line.rest }) ∧ Mq H H' p A A) ?_ ?_
    · walk_at "z"
      refine ⟨key, rfl, hkx, ?_⟩
      walk_at "z"
      refine ite_b (fun g => ?_) (fun g => ?_)
      · have g' : isSign key = false := by simpa using g
        rw [g', if_neg Bool.false_ne_true]
        walk_at "z"
        refine ⟨A.pl, A.lb, A.ll, Z.line, rfl, h.li, fun H1 R1 f1 => ?_⟩
        obtain ⟨h1, m1⟩ := h.line (f1.mono (by simp [HA.fL])) R1 nw_refl
        walk_at "z"
        exact ⟨rfl, h1, m1⟩
      · have g' : isSign key = true := by simpa using g
        rw [g', if_pos rfl]
        walk_at "z"
        exact ⟨rfl, h, Mq.refl⟩
    clear ho hol
    rintro σ' H1 ⟨rfl, h1, m1⟩
    unfold HS.once at k
    cases sg : isSign key with
    | true =>
      rw [sg, if_pos rfl] at h1 k
      have ho := h1.ob
      obtain ⟨dl, hol⟩ := h1.li.ob
      have l4 := okText_len hO.li.ok.text
      have hx' : Z.line.now.length ≤ sizeLine := by rw [sizeLine_eq]; omega
      walk_at "z"
      refine ⟨key, rfl, hkx, ?_⟩
      rw [sg]
      walk_at "z"
      refine ⟨A.pl, A.lb, A.ll, Z.line, rfl, h1.li, ?_⟩
      walk_at "z"
      refine ite_b (fun g => ?_) (fun g => ?_)
      · have g' : Z.line.now.length < 400 := by have := of_decide_eq_true g; omega
        rw [if_pos g'] at k
        obtain ⟨c, rfl, oc⟩ := sign_len sg
        have ck : chk Z.line Z.line.caret Z.line.caret (S [c]) = none := by
          refine chk_none hO.li.ok.caret hO.li.ok.caret (okText_of (by rw [tl_S]; simp [oc]) (by rw [len_S]; show 1 ≤ 400; decide)) ?_
          show (Z.line.now.length : Int) - _ + (1 : Nat) ≤ 400
          omega
        have hb := hO.li.b
        walk_at "z"
        refine ⟨A.pl, A.lb, A.ll, Z.line, S [c], rfl, h1.li, l4, by show 1 < _; decide, by omega, fun _ H2 ll' hll R2 f2 => ?_, fun e he => by rw [ck] at he; cases he⟩
        obtain ⟨h2, m2⟩ := h1.line (f2.mono (by simp [HA.fL])) R2 (((nw_nil.new hll).old (by simp [HA.fL])).old (by simp [HA.fL]))
        walk_at "z"
        exact k _ _ h2 (m1.trans m2)
      · have g' : ¬ Z.line.now.length < 400 := by have := of_decide_eq_false g; omega
        rw [if_neg g'] at k
        walk_at "z"
        exact k _ A h1 m1
    | false =>
      rw [sg, if_neg Bool.false_ne_true] at h1 k
      have hR := hO.rested
      generalize hY : ({ Z with line := Z.line.rest } : HS) = Y at *
      have hYn : Y.n ≤ 90000 := by rw [← hY]; exact hn
      have hYs : Y.srch = none := by rw [← hY]; exact hsn
      clear hY
      have ho := h1.ob
      obtain ⟨dl, hol⟩ := h1.li.ob
      have l4 := okText_len hR.li.ok.text
      unfold HS.once1 at k
      walk_at "z"
      refine ⟨key, rfl, hkx, ?_⟩
      rw [sg]
      walk_at "z"
      refine z_inT MOVES (T.t_MOVES _) ?_
      walk_at "z"
      refine ite_b (fun g => ?_) (fun g => ?_)
      · have g' := of_decide_eq_true g
        rw [if_pos g'] at k
        walk_at "z"
        refine ⟨p, A, Y, key, rfl, h1, hR.li, g', fun H2 s2 => ?_⟩
        have h2 := h1.same s2
        walk_at "z"
        refine ⟨A.pl, A.lb, A.ll, Y.line, _, rfl, h2.li, l4, fun _ H3 R3 f3 => ?_, fun z => absurd (place_goal hR.li) z⟩
        obtain ⟨h3, m3⟩ := h2.line (f3.mono (by simp [HA.fL])) R3 nw_refl
        walk_at "z"
        exact k _ _ h3 ((m1.trans (Mq.same s2)).trans m3)
      rw [if_neg (of_decide_eq_false g)] at k
      clear g
      walk_at "z"
      refine z_inT CUTS (T.t_CUTS _) ?_
      walk_at "z"
      refine ite_b (fun g => ?_) (fun g => ?_)
      · have g' := of_decide_eq_true g
        rw [if_pos g'] at k
        walk_at "z"
        refine ⟨p, A, Y, key, rfl, h1, hR, hYn, g', fun H2 A2 h2 m2 => ?_⟩
        walk_at "z"
        exact k _ A2 h2 (m1.trans m2)
      rw [if_neg (of_decide_eq_false g)] at k
      clear g
      walk_at "z"
      intro t1 ht1
      walk_at "z"
      rw [show (if false = true then !inV (V.str key) [V.str "rub", V.str "del"] else inV (V.str key) [V.str "rub", V.str "del"]) = decide (key ∈ (["rub", "del"] : List Str)) from inV_str (ys := ["rub", "del"])]
      have s1 := Same.new (Same.refl H1) ht1 (o := .tup [.str "rub", .str "del"])
      have hg1 := h1.same s1
      have mg1 := m1.trans (Mq.same s1)
      generalize upd H1 t1 _ = G1 at s1 hg1 mg1 ⊢
      clear ho hol
      have ho := hg1.ob
      obtain ⟨dl, hol⟩ := hg1.li.ob
      refine ite_b (fun g => ?_) (fun g => ?_)
      · have g' := of_decide_eq_true g
        rw [if_pos g'] at k
        walk_at "z"
        refine ⟨p, A, Y, key, rfl, hg1, hR.li, hYn, g', fun H2 A2 h2 m2 => ?_⟩
        walk_at "z"
        exact k _ A2 h2 (mg1.trans m2)
      rw [if_neg (of_decide_eq_false g)] at k
      clear g
      walk_at "z"
      intro t2 ht2
      walk_at "z"
      rw [show (if false = true then !inV (V.str key) [V.str "yank", V.str "pop"] else inV (V.str key) [V.str "yank", V.str "pop"]) = decide (key ∈ (["yank", "pop"] : List Str)) from inV_str (ys := ["yank", "pop"])]
      have s2 := Same.new (Same.refl G1) ht2 (o := .tup [.str "yank", .str "pop"])
      have hg2 := hg1.same s2
      have mg2 := mg1.trans (Mq.same s2)
      generalize upd G1 t2 _ = G2 at s2 hg2 mg2 ⊢
      clear ho hol
      have ho := hg2.ob
      obtain ⟨dl, hol⟩ := hg2.li.ob
      refine ite_b (fun g => ?_) (fun g => ?_)
      · have g' := of_decide_eq_true g
        rw [if_pos g'] at k
        walk_at "z"
        refine ⟨p, A, Y, key, rfl, hg2, hR, hYn, g', fun H2 A2 h2 m2 => ?_⟩
        walk_at "z"
        exact k _ A2 h2 (mg2.trans m2)
      rw [if_neg (of_decide_eq_false g)] at k
      clear g
      walk_at "z"
      intro t3 ht3
      walk_at "z"
      rw [show (if false = true then !inV (V.str key) [V.str "great", V.str "small", V.str "cap"] else inV (V.str key) [V.str "great", V.str "small", V.str "cap"]) = decide (key ∈ (["great", "small", "cap"] : List Str)) from inV_str (ys := ["great", "small", "cap"])]
      have s3 := Same.new (Same.refl G2) ht3 (o := .tup [.str "great", .str "small", .str "cap"])
      have hg3 := hg2.same s3
      have mg3 := mg2.trans (Mq.same s3)
      generalize upd G2 t3 _ = G3 at s3 hg3 mg3 ⊢
      clear ho hol
      have ho := hg3.ob
      obtain ⟨dl, hol⟩ := hg3.li.ob
      refine ite_b (fun g => ?_) (fun g => ?_)
      · have g' := of_decide_eq_true g
        rw [if_pos g'] at k
        walk_at "z"
        refine ⟨p, A, Y, key, rfl, hg3, hR.li, hYn, fun H2 A2 h2 m2 => ?_⟩
        walk_at "z"
        exact k _ A2 h2 (mg3.trans m2)
      rw [if_neg (of_decide_eq_false g)] at k
      clear g
      walk_at "z"
      intro t4 ht4
      walk_at "z"
      rw [show (if false = true then !inV (V.str key) [V.str "undo", V.str "redo"] else inV (V.str key) [V.str "undo", V.str "redo"]) = decide (key ∈ (["undo", "redo"] : List Str)) from inV_str (ys := ["undo", "redo"])]
      have s4 := Same.new (Same.refl G3) ht4 (o := .tup [.str "undo", .str "redo"])
      have hg4 := hg3.same s4
      have mg4 := mg3.trans (Mq.same s4)
      generalize upd G3 t4 _ = G4 at s4 hg4 mg4 ⊢
      clear ho hol
      have ho := hg4.ob
      obtain ⟨dl, hol⟩ := hg4.li.ob
      refine ite_b (fun g => ?_) (fun g => ?_)
      · have g' := of_decide_eq_true g
        rw [if_pos g'] at k
        walk_at "z"
        refine ⟨p, A, Y, key, rfl, hg4, hR.li, hYn, fun H2 A2 h2 m2 => ?_⟩
        walk_at "z"
        exact k _ A2 h2 (mg4.trans m2)
      rw [if_neg (of_decide_eq_false g)] at k
      clear g
      walk_at "z"
      intro t5 ht5
      walk_at "z"
      rw [show (if false = true then !inV (V.str key) [V.str "up", V.str "down"] else inV (V.str key) [V.str "up", V.str "down"]) = decide (key ∈ (["up", "down"] : List Str)) from inV_str (ys := ["up", "down"])]
      have s5 := Same.new (Same.refl G4) ht5 (o := .tup [.str "up", .str "down"])
      have hg5 := hg4.same s5
      have mg5 := mg4.trans (Mq.same s5)
      generalize upd G4 t5 _ = G5 at s5 hg5 mg5 ⊢
      clear ho hol
      have ho := hg5.ob
      obtain ⟨dl, hol⟩ := hg5.li.ob
      refine ite_b (fun g => ?_) (fun g => ?_)
      · have g' := of_decide_eq_true g
        rw [if_pos g'] at k
        obtain ⟨dh, hoh⟩ := hg5.hi.ob
        walk_at "z"
        refine ⟨A.ph, A.hk, A.hs, 50, _, _, _, rfl, hg5.hi, ?_⟩
        walk_at "z"
        have fin : ∀ d : Int, d = (if key = "down" then 1 else -1) → sp_Hand_recall K [.ref p, .int ((Y.hist.spot : Int) + d)] G5 (fun x H1 => Q .non H1) (WE (fun cls d x H => E cls d H) [some (.ref p), some (.str key)]) := fun d hd => ⟨p, A, Y, _, rfl, hg5, hR, fun H2 A2 h2 m2 => k _ A2 (by rw [← hd]; exact h2) (mg5.trans m2)⟩
        refine ite_b (fun g2 => ?_) (fun g2 => ?_)
        · have g2' : key = "down" := by simpa using g2
          walk_at "z"
          exact fin 1 (by rw [if_pos g2'])
        · have g2' : ¬ key = "down" := by simpa using g2
          walk_at "z"
          exact fin (-1) (by rw [if_neg g2'])
      rw [if_neg (of_decide_eq_false g)] at k
      clear g
      walk_at "z"
      refine ⟨p, A, Y, key, rfl, hg5, hR, hYn, hYs, fun H2 A2 h2 m2 => ?_⟩
      walk_at "z"
      exact k _ A2 h2 (mg5.trans m2)
end

theorem sc_Hand_again : FnScope ["self", "key"] ["self", "key"] (defScope s_Hand_again) := ⟨rfl, rfl, rfl, by decide +kernel, rfl, by decide +kernel, by decide +kernel⟩
section
variable {P : Program} {w : World} {K : PySem.W.Frag} {mg : Str → Option Value} {base : Heap}
def sp_Hand_again (K : PySem.W.Frag) : Sp := fun vs H Q _ => ∃ (p : Addr) (A : HA) (Z : HS) (key : Str), vs = [.ref p, .str key] ∧ HandAt K H p A Z ∧ Z.Ok ∧ Z.n ≤ 90000 ∧ Z.srch = none ∧ key.length ≤ 400 ∧ ∀ H' A', HandAt K H' p A' (Z.again key) → Mq H H' p A A' → Q .non H'
theorem m_Hand_again (T : Tx K mg) : Mt P w K mg base (He.ga K "Hand") "again" 10 ["self", "key"] (sp_Hand_again K) := by
  obtain ⟨fd, F⟩ := T.c.d.def_ 62 (d := d_Hand_again) rfl
  refine ⟨_, fd, F.ok (CX := L2.CX P w) sc_Hand_again (fun vs H Q E h => ?len) (fun cdv A outer s H vs Q E hr h => ?body), T.me_Hand_again, T.cl_Hand, F.bindsN fun _ _ _ _ _ _ us hl => match us, hl with | [_, _], _ => rfl⟩
  case len => obtain ⟨p, A, Z, key, rfl, h, hO, hn, hsn, hkl, k⟩ := h; rfl
  case body =>
    obtain ⟨p, A, Z, key, rfl, h, hO, hn, hsn, hkl, k⟩ := h
    refine ⟨_, (pss_cons (ps_expr (pe_mt (pv 0) (m_Hand_once T) (hr.mono (by decide)) tkOf (pa_cons (pv 1) pa_nil)))
      (Evl.pss_cut (ps_if (pt_cmpR (op_notInK (K := K) rfl) (pv 1) (pe_gref T.g_CUTS) rfl) (pss_one (ps_put T.cl_Hand T.na_Hand_last_cut (pv 0) pe_bl)) pss_nil)
      (Evl.pss_cut (ps_if (pt_cmpR (op_notInK (K := K) rfl) (pv 1) (pe_tup (pa_cons pe_str (pa_cons pe_str pa_nil))) rfl) (pss_one (ps_put T.cl_Hand T.na_Hand_yanked (pv 0) pe_non)) pss_nil)
      (pss_one (ps_if (pt_cmpR op_ne (pv 1) pe_str (nomark _)) (pss_one (ps_put T.cl_Hand T.na_Hand_choice (pv 0) pe_non)) pss_nil))))), ?_⟩
    have ho := h.ob
    walk_at "z"
    refine ⟨p, A, Z, key, rfl, h, hO, hn, hsn, hkl, fun H1 A1 h1 m1 => ?_⟩
    unfold HS.again at k
    dsimp only at k
    generalize Z.once key = Y at *
    clear ho
    walk_at "z"
    refine z_cut (fun σ' H' => σ' = [some (.ref p), some (.str key)] ∧ HandAt K H' p A1 { Y with cut := if key ∈ CUTS then Y.cut else false } ∧ Mq H H' p A A1) ?_ ?_
    · have ho := h1.ob
      walk_at "z"
      refine z_ninT CUTS (T.t_CUTS _) ?_
      walk_at "z"
      refine ite_b (fun g => ?_) (fun g => ?_)
      · have g' : key ∉ CUTS := by simpa using g
        rw [if_neg g']
        walk_at "z"
        exact ⟨rfl, h1.put_cut false, m1.trans (h1.mvp _)⟩
      · have g' : key ∈ CUTS := by simpa using g
        rw [if_pos g']
        walk_at "z"
        exact ⟨rfl, h1, m1⟩
    clear h1 m1 H1
    rintro σ' H1 ⟨rfl, h1, m1⟩
    refine z_cut (fun σ' H' => ∃ A2, σ' = [some (.ref p), some (.str key)] ∧ HandAt K H' p A2 { Y with cut := if key ∈ CUTS then Y.cut else false, yank := if key ∈ (["yank", "pop"] : List Str) then Y.yank else none } ∧ Mq H H' p A A2) ?_ ?_
    · have ho := h1.ob
      walk_at "z"
      intro t1 ht1
      walk_at "z"
      rw [show (if true = true then !inV (V.str key) [V.str "yank", V.str "pop"] else inV (V.str key) [V.str "yank", V.str "pop"]) = !decide (key ∈ (["yank", "pop"] : List Str)) from congrArg (!·) (inV_str (ys := ["yank", "pop"]))]
      have s1 := Same.new (Same.refl H1) ht1 (o := .tup [.str "yank", .str "pop"])
      have h2 := h1.same s1
      generalize upd H1 t1 _ = H2 at s1 h2 ⊢
      clear ho
      have ho := h2.ob
      refine ite_b (fun g => ?_) (fun g => ?_)
      · have g' : key ∉ (["yank", "pop"] : List Str) := by simpa using g
        rw [if_neg g']
        walk_at "z"
        exact ⟨_, rfl, h2.put_yank (v := .non) (y := none) rfl, (m1.trans (Mq.same s1)).trans (h2.mvq _ rfl rfl)⟩
      · have g' : key ∈ (["yank", "pop"] : List Str) := by rw [Bool.not_eq_false'] at g; exact of_decide_eq_true g
        rw [if_pos g']
        walk_at "z"
        exact ⟨A1, rfl, h2, m1.trans (Mq.same s1)⟩
    clear h1 m1 H1
    rintro σ' H1 ⟨A2, rfl, h1, m1⟩
    have ho := h1.ob
    walk_at "z"
    refine ite_b (fun g => ?_) (fun g => ?_)
    · have g' : ¬ key = "fill" := by simpa using g
      rw [if_neg g'] at k
      walk_at "z"
      have h2 := h1.put_choice (v := .non) (fp := []) (q := none) ⟨rfl, rfl⟩ (fun _ z => nomatch z)
      refine k _ _ ⟨h2.ob, h2.li, h2.ri, h2.hi, h2.fi, h2.wi, h2.en, h2.ma, h2.sr, h2.ya, h2.ch, h2.ke, h2.pw⟩ (m1.trans ⟨⟨Fr.upd Fr.refl h1.p_mem, fun y hy => .inl ?_⟩, rfl⟩)
      rcases fl_set (i := 9) (Bs := A2.bs p) (F' := []) hy with z | z
      · exact z
      · cases z
    · have g' : key = "fill" := by simpa using g
      rw [if_pos g'] at k
      walk_at "z"
      exact k _ A2 ⟨h1.ob, h1.li, h1.ri, h1.hi, h1.fi, h1.wi, h1.en, h1.ma, h1.sr, h1.ya, h1.ch, h1.ke, h1.pw⟩ m1
end

theorem sc_Hand_pressed : FnScope ["self", "key", "many", "k"] ["self", "key"] (defScope s_Hand_pressed) := ⟨rfl, rfl, rfl, by decide +kernel, rfl, by decide +kernel, by decide +kernel⟩
section
variable {P : Program} {w : World} {K : PySem.W.Frag} {mg : Str → Option Value} {base : Heap}
def sp_Hand_pressed (K : PySem.W.Frag) : Sp := fun vs H Q _ => ∃ (p : Addr) (A : HA) (Z : HS) (key : Str), vs = [.ref p, .str key] ∧ HandAt K H p A Z ∧ Z.Ok ∧ (Z.pressed key).n ≤ 90000 ∧ key.length ≤ 400 ∧ ∀ H' A', HandAt K H' p A' (Z.pressed key) → Mq H H' p A A' → Q .non H'
theorem m_Hand_pressed (T : Tx K mg) : Mt P w K mg base (He.ga K "Hand") "pressed" 11 ["self", "key"] (sp_Hand_pressed K) := by
  obtain ⟨fd, F⟩ := T.c.d.def_ 61 (d := d_Hand_pressed) rfl
  refine ⟨_, fd, F.ok (CX := L2.CX P w) sc_Hand_pressed (fun vs H Q E h => ?len) (fun cdv A outer s H vs Q E hr h => ?body), T.me_Hand_pressed, T.cl_Hand, F.bindsN fun _ _ _ _ _ _ us hl => match us, hl with | [_, _], _ => rfl⟩
  case len => obtain ⟨p, A, Z, key, rfl, h, hO, hn, hkl, k⟩ := h; rfl
  case body =>
    obtain ⟨p, A, Z, key, rfl, h, hO, hn, hkl, k⟩ := h
    refine ⟨_, (Evl.pss_cut (ps_if (PW.pt (pw_and (pt_cmpR op_notNon (pe_get T.cl_Hand T.na_Hand_search (pv 0)) pe_non (nomark _)) (pw_and1 (pt_val (pe_mt (pv 0) (m_Hand_searched T) (hr.mono (by decide)) tkOf (pa_cons (pv 1) pa_nil)))))) (pss_one ps_retN) pss_nil)
      (Evl.pss_cut (ps_if (PW.pt (pw_and (pt_cmpR op_eq (pe_callB (call_lnK (K := K) rfl) rfl T.n_len boot_len (pa_cons (pv 1) pa_nil)) pe_int (nomark _)) (pw_and (pt_cmpR op_eq (pe_ix ix_str (pv 1) pe_int (fun _ _ => rfl)) pe_str (nomark _)) (pw_and1 (pt_cmpR op_inStr (pe_ix ix_str (pv 1) pe_int (fun _ _ => rfl)) (pe_gcon T.c_FIGURES) rfl))))) (pss_cons (ps_put T.cl_Hand T.na_Hand_times (pv 0) (pe_callB (call_mn rfl) rfl T.n_min (by decide +kernel) (pa_cons (pe_gcon T.c_MOST_TIMES) (pa_cons (pe_op op_add (pe_op op_mul pe_int (pe_ifExp (pt_cmpR op_isNon (pe_get T.cl_Hand T.na_Hand_times (pv 0)) pe_non (nomark _)) pe_int (pe_get T.cl_Hand T.na_Hand_times (pv 0)))) (pe_callTy call_int_strN rfl T.n_int (by decide +kernel) (pa_cons (pe_ix ix_str (pv 1) pe_int (fun _ _ => rfl)) pa_nil))) pa_nil))))
      (pss_one ps_retN)) pss_nil)
      (Evl.pss_cut (ps_set (i := 2) sc_Hand_pressed.nd rfl (Or.inl rfl) (pe_ifExp (pt_cmpR op_isNon (pe_get T.cl_Hand T.na_Hand_times (pv 0)) pe_non (nomark _)) pe_int (pe_get T.cl_Hand T.na_Hand_times (pv 0))))
      (pss_cons (ps_put T.cl_Hand T.na_Hand_times (pv 0) pe_non)
      (pss_one (ps_for passOf rfl (pi_range1 rfl T.n_range (pa_cons (pv 2) pa_nil)) (pg_name (i := 3) sc_Hand_pressed.nd rfl (Or.inl rfl)) (pss_one (ps_if (PW.pt (pw_or (pt_cmpR op_isNon (pe_get T.cl_Hand T.na_Hand_search (pv 0)) pe_non (nomark _)) (pw_or1 (pt_not (pt_val (pe_mt (pv 0) (m_Hand_searched T) (hr.mono (by decide)) tkOf (pa_cons (pv 1) pa_nil))))))) (pss_one (ps_expr (pe_mt (pv 0) (m_Hand_again T) (hr.mono (by decide)) tkOf (pa_cons (pv 1) pa_nil)))) pss_nil)))))))), ?_⟩
    have hkx : key.length ≤ sizeLine := by rw [sizeLine_eq]; omega
    have hn0 : Z.n ≤ 90000 := Nat.le_trans HS.pressed_n hn
    refine z_cut (fun σ' H' => σ' = [some (.ref p), some (.str key), none, none] ∧ ∃ (A1 : HA) (Z1 : HS), HandAt K H' p A1 Z1 ∧ Z1.Ok ∧ Mq H H' p A A1 ∧ Z.pressed key = Z1.pressed1 key) ?_ ?_
    · have ho := h.ob
      cases hs : Z.srch with
      | none =>
        obtain ⟨e1, e2⟩ : SrAt K H A.sv A.sfp none := hs ▸ h.sr
        unfold handF at ho
        rw [e1] at ho
        walk_at "z"
        exact ⟨rfl, A, Z, h, hO, Mq.refl, by unfold HS.pressed; rw [hs]⟩
      | some q =>
        obtain ⟨ps, st, e1, e2, R⟩ : SrAt K H A.sv A.sfp (some q) := hs ▸ h.sr
        unfold handF at ho
        rw [e1] at ho
        obtain ⟨oa, ob⟩ := hO.searched hs key
        have eP : Z.pressed key = if (Z.searched q key).1 then (Z.searched q key).2 else (Z.searched q key).2.pressed1 key := by unfold HS.pressed; rw [hs]
        walk_at "z"
        refine ⟨p, A, Z, q, key, rfl, h, hO, hn0, hs, hkl, fun H1 A1 h1 m1 => ?_⟩
        walk_at "z"
        refine ite_b (fun g => ?_) (fun g => ?_)
        · rw [eP, if_pos g] at k
          walk_at "z"
          exact k _ A1 h1 m1
        · walk_at "z"
          exact ⟨rfl, A1, _, h1, oa, m1, by rw [eP, if_neg (by rw [g]; exact Bool.false_ne_true)]⟩
    clear h hO hn0
    rintro σ' H1 ⟨rfl, A1, Z1, h1, hO1, m1, eP⟩
    rw [eP] at k hn
    clear eP
    have e := len_tl key
    have ef := fig_iff (key := key)
    unfold HS.pressed1 at k hn
    refine z_cut (fun σ' H' => σ' = [some (.ref p), some (.str key), none, none] ∧ isFig key = false ∧ H' = H1) ?_ ?_
    · have ho := h1.ob
      walk_at "z"
      have e2 : decide (V.int (key.length : Int) = V.int 2) = decide ((key.length : Int) = 2) := by
        rw [decide_eq_decide]
        exact ⟨fun z => by injection z, fun z => by rw [z]⟩
      rw [e2]
      refine ite_b (fun h5 => ?_) (fun h5 => ?_)
      · rw [h5, Bool.true_and] at ef
        have l2 : (tl key).length = 2 := by have := of_decide_eq_true h5; omega
        have g0 : (tl key)[0]? = some ((tl key).getD 0 0) := by rw [List.getD_eq_getElem?_getD, List.getElem?_eq_getElem (by omega)]; rfl
        have g1 : (tl key)[1]? = some ((tl key).getD 1 0) := by rw [List.getD_eq_getElem?_getD, List.getElem?_eq_getElem (by omega)]; rfl
        walk_at "z"
        refine z_ixS hkx (atI_nat (j := 0) g0) ?_
        walk_at "z"
        have e3 : decide (V.str ⟨#[(tl key).getD 0 0]⟩ = V.str "#") = decide ((tl key).getD 0 0 = 35) := by
          rw [decide_eq_decide]
          constructor
          · intro z
            injection z with z
            have h2 : [(tl key).getD 0 0] = [35] := str_eq_iff.mp z
            injection h2
          · intro z
            rw [z]; rfl
        rw [e3]
        refine ite_b (fun h6 => ?_) (fun h6 => ?_)
        · rw [h6, Bool.true_and] at ef
          walk_at "z"
          refine z_ixS hkx (atI_nat (j := 1) g1) ?_
          walk_at "z"
          have ef' : (!(Builtin.Str.occurrences "0123456789" ⟨#[(tl key).getD 1 0]⟩ 0 (Str.length "0123456789") 1).isEmpty) = isFig key := ef.symm
          rw [ef']
          refine ite_b (fun h7 => ?_) (fun h7 => ?_)
          · rw [if_pos h7] at k
            have fo := HS.fig_of h7
            have hd : 48 ≤ (tl key).getD 1 0 ∧ (tl key).getD 1 0 ≤ 57 := by unfold HS.figOf at fo; omega
            have t0 : 0 ≤ Z1.times.getD 0 ∧ Z1.times.getD 0 ≤ 99 := by
              cases q : Z1.times with
              | none => exact ⟨Int.le_refl _, by decide⟩
              | some k => exact hO1.ti k q
            have ho' := h1.ob
            unfold handF at ho'
            clear ho
            have fin : ∀ (x : Int), x = Z1.times.getD 0 → H1 p = some (.ins (He.ga K "Hand") A1.dx (handF A1 Z1.cut Z1.times)) → Q .non (upd H1 p (.ins (He.ga K "Hand") A1.dx (putF "times" (.int (min 99 (10 * x + (((tl key).getD 1 0 : Nat) : Int) - 48))) (handF A1 Z1.cut Z1.times)))) := fun x hx _ => by
              have h3 := h1.put_times (some (min 99 (10 * x + (((tl key).getD 1 0 : Nat) : Int) - 48)))
              have e3 : min 99 (10 * Z1.times.getD 0 + HS.figOf key) = min 99 (10 * x + (((tl key).getD 1 0 : Nat) : Int) - 48) := by rw [hx]; unfold HS.figOf; rw [Int.add_sub_assoc]
              rw [e3] at k
              exact k _ A1 h3 (m1.trans (h1.mvp _))
            cases ht : Z1.times with
            | none =>
              rw [ht] at ho'
              walk_at "z"
              refine z_i (show CMul 10 0 from .inl ⟨by decide, by decide⟩) ?_
              walk_at "z"
              refine z_ixS hkx (atI_nat (j := 1) g1) ?_
              walk_at "z"
              refine z_intStr (int_digit hd.1 hd.2) (by show 1 ≤ _; decide) ?_
              walk_at "z"
              simp only [min_ite]
              have q := fin 0 (by rw [ht]; rfl) h1.ob
              rw [Int.add_sub_assoc] at q
              exact q
            | some t =>
              rw [ht] at ho' t0
              have t0' : 0 ≤ t ∧ t ≤ 99 := t0
              walk_at "z"
              show rI CMul _ (.int 10) (.int t) _ _
              refine z_i (show CMul 10 t from .inl ⟨by decide, by decide⟩) ?_
              walk_at "z"
              refine z_ixS hkx (atI_nat (j := 1) g1) ?_
              walk_at "z"
              refine z_intStr (int_digit hd.1 hd.2) (by show 1 ≤ _; decide) ?_
              walk_at "z"
              simp only [min_ite]
              have q := fin t (by rw [ht]; rfl) h1.ob
              rw [Int.add_sub_assoc] at q
              exact q
          · walk_at "z"
            exact ⟨rfl, h7, rfl⟩
        · rw [h6, Bool.false_and] at ef
          walk_at "z"
          exact ⟨rfl, ef, rfl⟩
      · rw [h5, Bool.false_and] at ef
        walk_at "z"
        exact ⟨rfl, ef, rfl⟩
    rintro σ' H2 ⟨rfl, hf, rfl⟩
    rw [if_neg (by rw [hf]; exact Bool.false_ne_true)] at k hn
    refine z_cut (fun σ' H' => σ' = [some (.ref p), some (.str key), some (.int (Z1.times.getD 1)), none] ∧ H' = H2) ?_ ?_
    · have ho := h1.ob
      unfold handF at ho
      cases ht : Z1.times with
      | none =>
        rw [ht] at ho
        walk_at "z"
        exact ⟨rfl, rfl⟩
      | some t =>
        rw [ht] at ho
        walk_at "z"
        exact ⟨rfl, rfl⟩
    rintro σ' H3 ⟨rfl, rfl⟩
    have tb : 0 ≤ Z1.times.getD 1 ∧ Z1.times.getD 1 ≤ 99 := by
      cases q : Z1.times with
      | none => exact ⟨by decide, by decide⟩
      | some k => exact hO1.ti k q
    have ho := h1.ob
    walk_at "z"
    have h2 := h1.put_times none
    have m2 := m1.trans (h1.mvp (.ins (He.ga K "Hand") A1.dx (putF "times" .non (handF A1 Z1.cut Z1.times))))
    have hO2 := hO1.untimed
    generalize ({ Z1 with times := none } : HS) = Y at *
    change HandAt K (upd H3 p (.ins (He.ga K "Hand") A1.dx (putF "times" .non (handF A1 Z1.cut Z1.times)))) p A1 Y at h2
    generalize upd H3 p _ = H4 at h2 m2 ⊢
    generalize Z1.times.getD 1 = t at *
    clear ho h1 m1 hO1
    refine z_rng1e (by omega) (by omega) ?_
    refine fg_range (fun i σ' H' => ∃ A' v3, σ' = [some (.ref p), some (.str key), some (.int t), v3] ∧ HandAt K H' p A' (HS.turns key i Y) ∧ Mq H H' p A A') ?_ ?_ ?_
    · exact ⟨A1, none, rfl, h2, m2⟩
    · clear h2 m2
      rintro i σ' H5 hi ⟨A5, v3, rfl, h5, m5⟩
      have hO5 := HS.Ok.turns key i hO2
      have n5 : (HS.turns key i Y).n ≤ 90000 := Nat.le_trans (HS.turns_le (Nat.le_of_lt hi)) hn
      have n6 : ((HS.turns key i Y).turn key).n ≤ 90000 := by rw [HS.turns_succ]; exact Nat.le_trans (HS.turns_le hi) hn
      rw [← HS.turns_succ]
      generalize HS.turns key i Y = X at *
      have ho := h5.ob
      unfold HS.turn at n6 ⊢
      cases hs : X.srch with
      | none =>
        obtain ⟨e1, e2⟩ : SrAt K H5 A5.sv A5.sfp none := hs ▸ h5.sr
        unfold handF at ho
        rw [e1] at ho
        dsimp only
        walk_at "z"
        refine ⟨p, A5, X, key, rfl, h5, hO5, n5, hs, hkl, fun H6 A6 h6 m6 => ?_⟩
        walk_at "z"
        exact ⟨A6, _, rfl, h6, m5.trans m6⟩
      | some q =>
        obtain ⟨ps, st, e1, e2, R⟩ : SrAt K H5 A5.sv A5.sfp (some q) := hs ▸ h5.sr
        unfold handF at ho
        rw [e1] at ho
        obtain ⟨oa, ob⟩ := hO5.searched hs key
        rw [hs] at n6
        dsimp only at n6 ⊢
        walk_at "z"
        refine ⟨p, A5, X, q, key, rfl, h5, hO5, n5, hs, hkl, fun H6 A6 h6 m6 => ?_⟩
        walk_at "z"
        cases g : (X.searched q key).1 with
        | true =>
          rw [if_pos rfl]
          walk_at "z"
          exact ⟨A6, _, rfl, h6, m5.trans m6⟩
        | false =>
          rw [g, if_neg Bool.false_ne_true] at n6
          rw [if_neg Bool.false_ne_true]
          clear ho
          have ho := h6.ob
          walk_at "z"
          refine ⟨p, A6, _, key, rfl, h6, oa, by rw [HS.again_n] at n6; omega, ob g, hkl, fun H7 A7 h7 m7 => ?_⟩
          walk_at "z"
          exact ⟨A7, _, rfl, h7, (m5.trans m6).trans m7⟩
    rintro σ' H5 ⟨A5, v3, rfl, h5, m5⟩
    exact k _ A5 h5 m5
end

theorem sc_Hand_play : FnScope ["self", "many", "k", "key"] ["self"] (defScope s_Hand_play) := ⟨rfl, rfl, rfl, by decide +kernel, rfl, by decide +kernel, by decide +kernel⟩
section
variable {P : Program} {w : World} {K : PySem.W.Frag} {mg : Str → Option Value} {base : Heap}
def sp_Hand_play (K : PySem.W.Frag) : Sp := fun vs H Q _ => ∃ (p : Addr) (A : HA) (Z : HS), vs = [.ref p] ∧ HandAt K H p A Z ∧ Z.Ok ∧ Z.play.n ≤ 90000 ∧ ∀ H' A', HandAt K H' p A' Z.play → Mq H H' p A A' → Q .non H'
theorem m_Hand_play (T : Tx K mg) : Mt P w K mg base (He.ga K "Hand") "play" 12 ["self"] (sp_Hand_play K) := by
  obtain ⟨fd, F⟩ := T.c.d.def_ 60 (d := d_Hand_play) rfl
  refine ⟨_, fd, F.ok (CX := L2.CX P w) sc_Hand_play (fun vs H Q E h => ?len) (fun cdv A outer s H vs Q E hr h => ?body), T.me_Hand_play, T.cl_Hand, F.bindsN fun _ _ _ _ _ _ us hl => match us, hl with | [_], _ => rfl⟩
  case len => obtain ⟨p, A, Z, rfl, h, hO, hn, k⟩ := h; rfl
  case body =>
    obtain ⟨p, A, Z, rfl, h, hO, hn, k⟩ := h
    refine ⟨_, (Evl.pss_cut (ps_set (i := 1) sc_Hand_play.nd rfl (Or.inl rfl) (pe_ifExp (pt_cmpR op_isNon (pe_get T.cl_Hand T.na_Hand_times (pv 0)) pe_non (nomark _)) pe_int (pe_get T.cl_Hand T.na_Hand_times (pv 0))))
      (pss_cons (ps_put T.cl_Hand T.na_Hand_times (pv 0) pe_non)
      (pss_one (ps_if (pt_cmpR op_isNon (pe_get T.cl_Hand T.na_Hand_keys_kept (pv 0)) pe_non (nomark _)) (pss_one (ps_for passOf rfl (pi_range1 rfl T.n_range (pa_cons (pv 1) pa_nil)) (pg_name (i := 2) sc_Hand_play.nd rfl (Or.inl rfl)) (pss_one (ps_for passOf rfl (pi_listK (K := K) rfl (pe_get T.cl_Hand T.na_Hand_macro (pv 0))) (pg_name (i := 3) sc_Hand_play.nd rfl (Or.inl rfl)) (pss_one (ps_expr (pe_mt (pv 0) (m_Hand_pressed T) (hr.mono (by decide)) tkOf (pa_cons (pv 3) pa_nil)))))))) pss_nil)))), ?_⟩
    refine z_cut (fun σ' H' => σ' = [some (.ref p), some (.int (Z.times.getD 1)), none, none] ∧ H' = H) ?_ ?_
    · have ho := h.ob
      unfold handF at ho
      cases ht : Z.times with
      | none =>
        rw [ht] at ho
        walk_at "z"
        exact ⟨rfl, rfl⟩
      | some t =>
        rw [ht] at ho
        walk_at "z"
        exact ⟨rfl, rfl⟩
    rintro σ' H3 ⟨rfl, rfl⟩
    have tb : 0 ≤ Z.times.getD 1 ∧ Z.times.getD 1 ≤ 99 := by
      cases q : Z.times with
      | none => exact ⟨by decide, by decide⟩
      | some k => exact hO.ti k q
    have ho := h.ob
    walk_at "z"
    have h2 := h.put_times none
    have m2 := h.mvp (.ins (He.ga K "Hand") A.dx (putF "times" .non (handF A Z.cut Z.times)))
    have hO2 := hO.untimed
    change HandAt K (upd H3 p (.ins (He.ga K "Hand") A.dx (putF "times" .non (handF A Z.cut Z.times)))) p A { Z with times := none } at h2
    generalize upd H3 p _ = H4 at h2 m2 ⊢
    generalize et : Z.times.getD 1 = t at *
    clear ho h
    have ho := h2.ob
    cases hk : Z.kept with
    | some l =>
      obtain ⟨kl, e1, e2, e3⟩ : KeAt H4 A.kv A.kfp (some l) := hk ▸ h2.ke
      have ez : Z.play = { Z with times := none } := by
        unfold HS.play
        split
        · rename_i q; rw [hk] at q; cases q
        · rfl
      rw [ez] at k
      rw [e1]
      walk_at "z"
      exact k _ A h2 m2
    | none =>
      obtain ⟨e1, e2⟩ : KeAt H4 A.kv A.kfp none := hk ▸ h2.ke
      have ez : Z.play = HS.rounds Z.mac t.toNat { Z with times := none } := by
        unfold HS.play
        split
        · rw [et]
        · rename_i q; rw [hk] at q; cases q
      rw [ez] at k hn
      rw [e1]
      walk_at "z"
      refine z_rng1e (by omega) (by omega) ?_
      have hmac := hO.ma
      generalize hY : ({ Z with times := none } : HS) = Y at *
      have rmac : ∀ (j : Nat) (ks : List Str), True := fun _ _ => trivial
      clear rmac ho ez
      refine fg_range (fun i σ' H' => ∃ A' v2 v3, σ' = [some (.ref p), some (.int t), v2, v3] ∧ HandAt K H' p A' (HS.rounds Z.mac i Y) ∧ (HS.rounds Z.mac i Y).mac = Z.mac ∧ Mq H3 H' p A A') ?_ ?_ ?_
      · exact ⟨A, none, none, rfl, h2, by rw [← hY]; rfl, m2⟩
      · clear h2 m2
        rintro i σ' H5 hi ⟨A5, v2, v3, rfl, h5, hm5, m5⟩
        have hO5 := HS.Ok.rounds Z.mac i hO2
        have n6 : ((HS.rounds Z.mac i Y).presses Z.mac).n ≤ 90000 := by rw [HS.rounds_succ]; exact Nat.le_trans (HS.rounds_le hi) hn
        rw [← HS.rounds_succ]
        generalize HS.rounds Z.mac i Y = X at *
        have ho := h5.ob
        have hml := h5.ma
        rw [hm5] at hml
        walk_at "z"
        refine fg_list (K := K) (xs := Z.mac.map V.str) (fun j σ' H' => ∃ A' v3, σ' = [some (.ref p), some (.int t), some (.int (0 + (i : Nat))), v3] ∧ HandAt K H' p A' (X.presses (Z.mac.take j)) ∧ (X.presses (Z.mac.take j)).mac = Z.mac ∧ A'.ml = A5.ml ∧ Mq H3 H' p A A') ?_ ?_ ?_ ?_
        · exact ⟨A5, v3, rfl, h5, hm5, rfl, m5⟩
        · rintro j σ' H' _ ⟨A', v3, _, h', hm', el, _⟩
          have := h'.ma
          rw [hm', el] at this
          exact SqL.of this
        · clear h5 hm5 m5 ho hml
          rintro j x σ' H6 hx ⟨A6, v3', rfl, h6, hm6, el6, m6⟩
          rw [List.getElem?_map] at hx
          obtain ⟨key, hkey, rfl⟩ := Option.map_eq_some_iff.mp hx
          have hkm := List.mem_of_getElem? hkey
          have eT : Z.mac.take (j + 1) = Z.mac.take j ++ [key] := by rw [List.take_succ, hkey]; rfl
          have n7 : ((X.presses (Z.mac.take j)).pressed key).n ≤ 90000 := by rw [HS.presses_snoc, ← eT]; exact Nat.le_trans HS.presses_take n6
          have hO6 := HS.Ok.presses (Z.mac.take j) hO5
          have ho := h6.ob
          walk_at "z"
          refine ⟨p, A6, _, key, rfl, h6, hO6, n7, key_len (hmac.2 key hkm).1, fun H7 A7 h7 m7 => ?_⟩
          walk_at "z"
          rw [HS.presses_snoc, ← eT] at h7
          exact ⟨A7, _, rfl, h7, by rw [eT, ← HS.presses_snoc]; exact HS.pressed_mac.1.trans hm6, m7.ml.trans el6, m6.trans m7⟩
        rintro σ' H6 ⟨A6, v3', rfl, h6, hm6, _, m6⟩
        rw [List.length_map, List.take_length] at h6 hm6
        exact ⟨A6, _, _, rfl, h6, hm6, m6⟩
      rintro σ' H5 ⟨A5, v2, v3, rfl, h5, _, m5⟩
      exact k _ A5 h5 m5
end

theorem sc_Hand_press : FnScope ["self", "key"] ["self", "key"] (defScope s_Hand_press) := ⟨rfl, rfl, rfl, by decide +kernel, rfl, by decide +kernel, by decide +kernel⟩
section
variable {P : Program} {w : World} {K : PySem.W.Frag} {mg : Str → Option Value} {base : Heap}
def sp_Hand_press (K : PySem.W.Frag) : Sp := fun vs H Q E => ∃ (p : Addr) (A : HA) (Z : HS) (key : Str), vs = [.ref p, .str key] ∧ HandAt K H p A Z ∧ Z.Ok ∧ key.length ≤ 400 ∧ (isKey key = true → (Z.press key).n ≤ 90000 ∧ ∀ H' A', HandAt K H' p A' (Z.press key) → Mv H H' (A.X p) (A'.X p) → Q .non H') ∧ (isKey key = false → E (.ref (He.ga K "BadKey")) none H)
theorem m_Hand_press (T : Tx K mg) : Mt P w K mg base (He.ga K "Hand") "press" 13 ["self", "key"] (sp_Hand_press K) := by
  obtain ⟨fd, F⟩ := T.c.d.def_ 58 (d := d_Hand_press) rfl
  refine ⟨_, fd, F.ok (CX := L2.CX P w) sc_Hand_press (fun vs H Q E h => ?len) (fun cdv A outer s H vs Q E hr h => ?body), T.me_Hand_press, T.cl_Hand, F.bindsN fun _ _ _ _ _ _ us hl => match us, hl with | [_, _], _ => rfl⟩
  case len => obtain ⟨p, A, Z, key, rfl, h, hO, hkl, k1, k2⟩ := h; rfl
  case body =>
    obtain ⟨p, A, Z, key, rfl, h, hO, hkl, k1, k2⟩ := h
    refine ⟨_, (pss_cons (ps_if (pt_not (pt_val (pe_fn (f_is_key T) (hr.mono (by decide)) tkOf (pa_cons (pv 1) pa_nil)))) (pss_one (ps_rs rfl tkOf T.x_BadKey T.g_BadKey)) pss_nil)
      (Evl.pss_cut (ps_if (PW.pt (pw_and (pt_cmpR op_notNon (pe_get T.cl_Hand T.na_Hand_keys_kept (pv 0)) pe_non (nomark _)) (pw_and1 (pt_cmpR (op_notInK (K := K) rfl) (pv 1) (pe_tup (pa_cons pe_str (pa_cons pe_str (pa_cons pe_str pa_nil)))) rfl)))) (pss_one (ps_put T.cl_Hand T.na_Hand_keys_kept (pv 0) (pe_slice (sl_listK (K := K) rfl) (pe_op op_cat (pe_get T.cl_Hand T.na_Hand_keys_kept (pv 0)) (pe_lst (pa_cons (pv 1) pa_nil))) po_none (po_some (pe_gcon T.c_MOST_KEYS))))) pss_nil)
      (pss_one (ps_if (pt_cmpR op_eq (pv 1) pe_str (nomark _)) (pss_one (ps_put T.cl_Hand T.na_Hand_keys_kept (pv 0) (pe_lst pa_nil))) (pss_one (ps_if (pt_cmpR op_eq (pv 1) pe_str (nomark _)) (pss_one (ps_expr (pe_mt0 (pv 0) (m_Hand_stop T) (hr.mono (by decide)) tkOf))) (pss_one (ps_if (pt_cmpR op_eq (pv 1) pe_str (nomark _)) (pss_one (ps_expr (pe_mt0 (pv 0) (m_Hand_play T) (hr.mono (by decide)) tkOf))) (pss_one (ps_expr (pe_mt (pv 0) (m_Hand_pressed T) (hr.mono (by decide)) tkOf (pa_cons (pv 1) pa_nil)))))))))))), ?_⟩
    have hkx : key.length ≤ sizeLine := by rw [sizeLine_eq]; omega
    have ho := h.ob
    walk_at "z"
    refine ⟨key, rfl, hkx, ?_⟩
    walk_at "z"
    refine ite_b (fun g => ?_) (fun g => ?_)
    · have g' : isKey key = false := by simpa using g
      walk_at "z"
      exact k2 g'
    have g' : isKey key = true := by simpa using g
    obtain ⟨hn, k⟩ := k1 g'
    clear k1 k2
    walk_at "z"
    unfold HS.press at k hn
    have eR : decide (key ∈ RSP) = (decide (key = "record") || (decide (key = "stop") || decide (key = "play"))) := by
      unfold RSP
      simp only [List.mem_cons, List.not_mem_nil, or_false, Bool.decide_or]
    refine z_cut (fun σ' H' => σ' = [some (.ref p), some (.str key)] ∧ ∃ A1, HandAt K H' p A1 { Z with kept := if key ∈ RSP then Z.kept else Z.kept.map fun l => (l ++ [key]).take 100 } ∧ Mv H H' (A.X p) (A1.X p)) ?_ ?_
    · cases hk : Z.kept with
      | none =>
        obtain ⟨e1, e2⟩ : KeAt H A.kv A.kfp none := hk ▸ h.ke
        have ez : (if key ∈ RSP then (none : Option (List Str)) else Option.map (fun l => (l ++ [key]).take 100) none) = none := by split <;> rfl
        rw [ez]
        unfold handF at ho
        rw [e1] at ho
        walk_at "z"
        refine ⟨rfl, A, ?_, Mv.refl⟩
        rw [← hk]; exact h
      | some l =>
        obtain ⟨kl, e1, e2, e3⟩ : KeAt H A.kv A.kfp (some l) := hk ▸ h.ke
        obtain ⟨hl1, hl2⟩ := hO.ke l hk
        unfold handF at ho
        rw [e1] at ho
        walk_at "z"
        intro tp htp
        walk_at "z"
        rw [show inV (.str key) [.str "record", .str "stop", .str "play"] = decide (key ∈ RSP) from inV_str (ys := RSP)]
        rw [if_pos rfl]
        have s1 : Same H (upd H tp (.tup [.str "record", .str "stop", .str "play"])) := by walk_at "sa"
        have h1 := h.same s1
        generalize upd H tp _ = H1 at s1 h1 ⊢
        by_cases gr : key ∈ RSP
        · rw [decide_eq_true gr, if_neg (by decide)]
          walk_at "z"
          refine ⟨rfl, A, ?_, Mv.same s1⟩
          rw [if_pos gr, ← hk]; exact h1
        rw [decide_eq_false gr, if_pos (by decide)]
        have ho1 := h1.ob
        have e3' := s1 _ _ e3
        clear ho
        unfold handF at ho1
        rw [e1] at ho1
        walk_at "z"
        intro b hb
        have s2 : Same H1 (upd H1 b (.lst [.str key])) := by walk_at "sa"
        have eb : upd H1 b (.lst [.str key]) b = some (.lst [.str key]) := upd_same
        have h2 := h1.same s2
        have e4 := s2 _ _ e3'
        clear ho1
        generalize upd H1 b _ = H2 at s2 h2 e4 eb ⊢
        refine z_cat e4 eb (by rw [List.length_map, sizeLine_eq]; simp only [List.length_cons, List.length_nil]; omega) fun c hc => ?_
        have s3 : Same H2 (upd H2 c (.lst (l.map V.str ++ [V.str key]))) := by walk_at "sa"
        have ec : upd H2 c (.lst (l.map V.str ++ [V.str key])) c = some (.lst (l.map V.str ++ [V.str key])) := upd_same
        have h3 := h2.same s3
        generalize upd H2 c _ = H3 at s3 h3 ec ⊢
        walk_at "z"
        intro d hd
        have eV : cutV (l.map V.str ++ [V.str key]) none (some 100) = ((l ++ [key]).take 100).map V.str := by
          rw [cutV_eq, cutL_to _ (by decide), List.map_take, List.map_append]; rfl
        rw [eV]
        have s4 : Same H3 (upd H3 d (.lst (((l ++ [key]).take 100).map V.str))) := by walk_at "sa"
        have ed : upd H3 d (.lst (((l ++ [key]).take 100).map V.str)) d = some (.lst (((l ++ [key]).take 100).map V.str)) := upd_same
        have h4 := h3.same s4
        generalize upd H3 d _ = H4 at s4 h4 ed ⊢
        have ho4 := h4.ob
        walk_at "z"
        have nx : ∀ y ∈ [d], y ∉ A.X p := fun y hy => by rw [List.mem_singleton.mp hy]; exact h3.fresh hd
        have h5 := h4.put_kept (v := .ref d) (fp := [d]) (q := some ((l ++ [key]).take 100)) ⟨d, rfl, rfl, ed⟩ nx
        have s13 : Same H H3 := ((s1.trans s2).trans s3)
        refine ⟨rfl, { A with kv := .ref d, kfp := [d] }, ?_, ?_⟩
        · rw [if_neg gr]
          exact h5
        · refine ⟨Fr.upd (Fr.same (s13.trans s4)) h.p_mem, fun y hy => ?_⟩
          rcases fl_set (i := 10) (Bs := A.bs p) (F' := [d]) hy with z | z
          · exact .inl z
          · rw [List.mem_singleton.mp z]; exact .inr (fresh_of s13 hd)
    rintro _ H1 ⟨rfl, A1, h1, m1⟩
    clear ho
    have ho1 := h1.ob
    walk_at "z"
    by_cases q1 : key = "record"
    · subst q1
      rw [if_pos rfl] at k hn
      rw [if_pos (by decide +kernel)]
      walk_at "z"
      intro kl hkl2
      have s2 : Same H1 (upd H1 kl (.lst [])) := by walk_at "sa"
      have h2 := h1.same s2
      have ho2 := h2.ob
      clear ho1
      have hl2 : upd H1 kl (.lst []) kl = some (.lst (([] : List Str).map V.str)) := upd_same
      generalize upd H1 kl _ = H2 at s2 h2 ho2 hl2 ⊢
      walk_at "z"
      have nx : ∀ y ∈ [kl], y ∉ A1.X p := fun y hy => by rw [List.mem_singleton.mp hy]; exact h1.fresh hkl2
      have h5 := h2.put_kept (v := .ref kl) (fp := [kl]) (q := some []) ⟨kl, rfl, rfl, hl2⟩ nx
      refine k _ _ h5 (m1.trans ⟨Fr.upd (Fr.same s2) h1.p_mem, fun y hy => ?_⟩)
      rcases fl_set (i := 10) (Bs := A1.bs p) (F' := [kl]) hy with z | z
      · exact .inl z
      · rw [List.mem_singleton.mp z]; exact .inr hkl2
    rw [if_neg q1] at k hn
    rw [if_neg (by simpa using q1)]
    by_cases q2 : key = "stop"
    · subst q2
      rw [if_pos rfl] at k hn
      have eK : (if ("stop" : Str) ∈ RSP then Z.kept else Z.kept.map fun l => (l ++ [("stop" : Str)]).take 100) = Z.kept := if_pos (by decide +kernel)
      rw [eK] at h1
      have ho1 := h1.ob
      walk_at "z"
      exact ⟨p, A1, Z, rfl, h1, fun H2 A2 h2 m2 => k _ A2 h2 (m1.trans m2)⟩
    rw [if_neg q2] at k hn
    by_cases q3 : key = "play"
    · subst q3
      rw [if_pos rfl] at k hn
      have eK : (if ("play" : Str) ∈ RSP then Z.kept else Z.kept.map fun l => (l ++ [("play" : Str)]).take 100) = Z.kept := if_pos (by decide +kernel)
      rw [eK] at h1
      have ho1 := h1.ob
      walk_at "z"
      exact ⟨p, A1, Z, rfl, h1, hO, hn, fun H2 A2 h2 m2 => k _ A2 h2 (m1.trans m2.mv)⟩
    rw [if_neg q3] at k hn
    have eK : (if key ∈ RSP then Z.kept else Z.kept.map fun l => (l ++ [key]).take 100) = Z.kept.map fun l => (l ++ [key]).take 100 := if_neg (by simp only [RSP, List.mem_cons, List.not_mem_nil, or_false]; rintro (z | z | z); exact q1 z; exact q2 z; exact q3 z)
    rw [eK] at h1
    clear ho1
    have ho1 := h1.ob
    walk_at "z"
    rw [if_neg (by simpa using q2)]
    walk_at "z"
    rw [if_neg (by simpa using q3)]
    walk_at "z"
    refine ⟨p, A1, _, key, rfl, h1, ?_, hn, hkl, fun H2 A2 h2 m2 => k _ A2 h2 (m1.trans m2.mv)⟩
    refine ⟨hO.li, hO.ri, hO.hi, hO.wo, hO.wl, hO.w4, hO.w400, hO.f0, hO.eo, hO.el, hO.cu, hO.ti, hO.ya, hO.ch, hO.sr, (fun l z => ?_), hO.ma⟩
    obtain ⟨l0, h0, rfl⟩ := Option.map_eq_some_iff.mp (show (Z.kept.map fun l => (l ++ [key]).take 100) = some l from z)
    obtain ⟨_, k2⟩ := hO.ke l0 h0
    refine ⟨by rw [List.length_take]; exact Nat.min_le_left _ _, fun k hk' => ?_⟩
    rcases List.mem_append.mp (List.mem_of_mem_take hk') with z | z
    · exact k2 k z
    · rw [List.mem_singleton.mp z]
      exact ⟨g', by simp only [RSP, List.mem_cons, List.not_mem_nil, or_false]; rintro (q | q | q); exact q1 q; exact q2 q; exact q3 q⟩
end

theorem sc_law : FnScope ["script", "town", "hand", "state", "keys", "k", "sign", "menu", "key", "due"] ["script"] (defScope s_law) := ⟨rfl, rfl, rfl, by decide +kernel, rfl, by decide +kernel, by decide +kernel⟩
section
variable {P : Program} {w : World} {K : PySem.W.Frag} {mg : Str → Option Value} {base : Heap}
structure W3 (K : PySem.W.Frag) (H : Hp) (a t : Addr) (ns : List Int) (n : Nat) (p : Addr) (A : HA) (Z : HS) (d sb sl lk ls lt : Addr) (kvs : List (Key × V)) (fp : List Addr) (Y : HS) (sq : Addr) (KS : List Str) : Prop where
  wh : WH K H a t ns n p A Z ([d, sb, sl, lk, ls, lt] ++ fp ++ [sq])
  s3 : S3 H d sb sl lk ls lt kvs Y.line Y.hist Y.ent fp Y.srch
  l : H sq = some (.lst (KS.map V.str))
  nl : sq ∉ [d, sb, sl, lk, ls, lt] ++ fp
section
variable {H H' : Hp} {a t p d sb sl lk ls lt sq sb' sl' lk' ls' sq' : Addr} {ns : List Int} {n n' : Nat} {A A' : HA} {Z Z' Y Y' : HS} {kvs kvs' : List (Key × V)} {fp fp' : List Addr} {KS : List Str}
theorem W3.alive (W : W3 K H a t ns n p A Z d sb sl lk ls lt kvs fp Y sq KS) : Alive H ([d, sb, sl, lk, ls, lt] ++ fp ++ [sq]) := W.s3.alive.app (wr1_lst W.l).2
theorem W3.wrs (W : W3 K H a t ns n p A Z d sb sl lk ls lt kvs fp Y sq KS) : Wrs H ([d, sb, sl, lk, ls, lt] ++ fp ++ [sq]) := W.s3.wr.app (wr1_lst W.l).1
theorem W3.same (W : W3 K H a t ns n p A Z d sb sl lk ls lt kvs fp Y sq KS) (s : Same H H') : W3 K H' a t ns n p A Z d sb sl lk ls lt kvs fp Y sq KS := ⟨W.wh.same s, W.s3.same s, s _ _ W.l, W.nl⟩
theorem W3.mono (W : W3 K H a t ns n p A Z d sb sl lk ls lt kvs fp Y sq KS) (h : n ≤ n') : W3 K H a t ns n' p A Z d sb sl lk ls lt kvs fp Y sq KS := ⟨W.wh.mono h, W.s3, W.l, W.nl⟩
theorem W3.draw (W : W3 K H a t ns n p A Z d sb sl lk ls lt kvs fp Y sq KS) (B : Bs K H' a t ns n') (f : Fr [t] H H') : W3 K H' a t ns n' p A Z d sb sl lk ls lt kvs fp Y sq KS := by
  have ty := ap1 W.wh.wd.ty
  exact ⟨W.wh.draw B f, W.s3.fr f W.wh.wd.bs.wrs (ty.sub fun x h => List.mem_append_left _ h), f _ _ W.l (ty sq (List.mem_append_right _ (by simp))), W.nl⟩
theorem W3.hand (W : W3 K H a t ns n p A Z d sb sl lk ls lt kvs fp Y sq KS) (m : Mv H H' (A.X p) (A'.X p)) (h : HandAt K H' p A' Z') (ok : Z'.Ok) : W3 K H' a t ns n p A' Z' d sb sl lk ls lt kvs fp Y sq KS := by
  have xy := W.wh.wd.xy.symm
  exact ⟨W.wh.hand m h ok W.alive, W.s3.fr m.fr W.wh.hd.wrX (xy.sub fun x h => List.mem_append_left _ h), m.fr _ _ W.l (xy sq (List.mem_append_right _ (by simp))), W.nl⟩
theorem W3.state (W : W3 K H a t ns n p A Z d sb sl lk ls lt kvs fp Y sq KS) (f : Fr ([d, sb, sl, lk, ls, lt] ++ fp) H H') (nw : Nw H ([d, sb, sl, lk, ls, lt] ++ fp) ([d, sb', sl', lk', ls', lt] ++ fp')) (R : S3 H' d sb' sl' lk' ls' lt kvs' Y'.line Y'.hist Y'.ent fp' Y'.srch) : W3 K H' a t ns n p A Z d sb' sl' lk' ls' lt kvs' fp' Y' sq KS := by
  refine ⟨W.wh.law (f.mono fun x h => List.mem_append_left _ h) W.wrs fun y hy => ?_, R, f _ _ W.l W.nl, fun z => ?_⟩
  · rcases List.mem_append.mp hy with z | z
    · exact (nw y z).imp (fun e => List.mem_append_left _ e) id
    · exact .inl (List.mem_append_right _ z)
  · rcases nw sq z with e | e
    · exact W.nl e
    · rw [W.l] at e; cases e
theorem W3.push (W : W3 K H a t ns n p A Z d sb sl lk ls lt kvs fp Y sq KS) (ks : List Str) : W3 K (upd H sq (.lst (ks.map V.str))) a t ns n p A Z d sb sl lk ls lt kvs fp Y sq ks := by
  have f : Fr [sq] H (upd H sq (.lst (ks.map V.str))) := Fr.upd Fr.refl (by simp)
  exact ⟨W.wh.law (f.mono fun x h => List.mem_append_right _ h) W.wrs nw_refl, W.s3.fr f (wr1_lst W.l).1 (ap1 W.nl), upd_same, W.nl⟩
theorem W3.newl (W : W3 K H a t ns n p A Z d sb sl lk ls lt kvs fp Y sq KS) (h : H sq' = none) (ks : List Str) : W3 K (upd H sq' (.lst (ks.map V.str))) a t ns n p A Z d sb sl lk ls lt kvs fp Y sq' ks := by
  have s : Same H (upd H sq' (.lst (ks.map V.str))) := Same.new (Same.refl _) h
  have V := W.wh.same s
  refine ⟨⟨⟨V.wd.bs, V.wd.tx, fun z => ?_, fun x hx z => ?_⟩, V.hd, V.ok⟩, W.s3.same s, upd_same, fun z => W.s3.alive sq' z h⟩
  · rcases List.mem_append.mp z with e | e
    · exact W.wh.wd.ty (List.mem_append_left _ e)
    · exact W.wh.wd.bs.alive t (by simp) (List.mem_singleton.mp e ▸ h)
  · rcases List.mem_append.mp z with e | e
    · exact W.wh.wd.xy x hx (List.mem_append_left _ e)
    · exact W.wh.hd.aliveX x hx (List.mem_singleton.mp e ▸ h)
end
def KEYS43 : List Str := (["search", "search", "search", "a", "b", "c", "a", "b", "rub", "rub", "cancel", "enter", "home", "up"] : List Str)
theorem sK_one {c : Nat} (h : okc c = true) : sK ⟨#[c]⟩ = true := by
  have : isSign ⟨#[c]⟩ = true := h
  unfold sK
  rw [this]; rfl
theorem sK_key {key : Str} (h : sK key = true) : isKey key = true ∧ isFig key = false ∧ key ∉ RSP := by
  unfold sK at h
  rw [Bool.or_eq_true] at h
  rcases h with z | z
  · have e : editK key = true := by unfold editK; rw [z]; rfl
    exact ⟨(edit_key e).1, (edit_key e).2.1, (edit_key e).2.2.1⟩
  · exact (by decide +kernel : ∀ k ∈ SK, isKey k = true ∧ isFig k = false ∧ k ∉ RSP) key (of_decide_eq_true z)
theorem again3 {Y : HS} {key : Str} (h : Calm3 Y) : Calm3 (Y.again key) := by
  refine ⟨?_, HS.again_mac.2.trans h.k⟩
  by_cases e : key = "search"
  · subst e; rw [search_again]; exact h.t
  · exact (HS.again_ts e).1.trans h.t
theorem searched3 {Z : HS} {q : SrchS} {key : Str} (h : Calm3 Z) : Calm3 (Z.searched q key).2 := by
  refine ⟨?_, HS.searched_mac.2.trans h.k⟩
  have sk : ∀ (q2 : SrchS) (b : Bool), (Z.seek q2 b).times = Z.times := fun q2 b => by
    unfold HS.seek
    dsimp only
    split
    · unfold HS.showFound; split <;> rfl
    · rfl
  unfold HS.searched
  repeat' split
  all_goals first
    | exact (sk _ _).trans h.t
    | exact h.t
theorem press3c {Z : HS} {key : Str} (h : Calm3 Z) (hk : sK key = true) : Calm3 (Z.press key) := by
  obtain ⟨_, hf, hr⟩ := sK_key hk
  rw [press3 h hf hr]
  split
  · exact again3 h
  · split
    · exact searched3 h
    · exact again3 (searched3 h)
def sp_law (K : PySem.W.Frag) : Sp := fun vs H Q _ => ∃ a ns, vs = [.ref a] ∧ Scr K H a ns ∧ ∀ H', Q (.bl true) H'

theorem f_law {K : PySem.W.Frag} {mg : Str → Option Value} (T : Tx K mg) : ∃ fd : FuncData, (∀ (s : Shared) (us : List Value), us.length = 1 → BindsTo s fd ⟨us, []⟩ ([("script" : Str)].zip us)) ∧ ∀ (P : Program) (w : World) (base : Heap), FnOk P w K mg base (L2.CX P w) 14 (He.ga K "law") fd ["script"] (sp_law K) := by
  obtain ⟨fd, F⟩ := T.c.d.def_ 105 (d := d_law) rfl
  refine ⟨fd, FunD.bindsA (ps := ["script"]) F fun _ _ _ _ _ _ us hl => match us, hl with | [_], _ => rfl, fun P w base => F.ok (CX := L2.CX P w) sc_law (fun vs H Q E h => ?len) (fun cdv A outer s H vs Q E hr h => ?body)⟩
  case len => obtain ⟨a, ns, rfl, hs, k⟩ := h; rfl
  case body =>
    obtain ⟨a, ns, rfl, hs, k⟩ := h
    have hu64 := hr.units
    have hu := hu_of hr
    refine ⟨_, (pss_cons (ps_set (i := 1) sc_law.nd rfl (Or.inl rfl) (pe_lst pa_nil))
      (pss_cons (ps_set (i := 2) sc_law.nd rfl (Or.inl rfl) (pe_mk (mk_Hand T) (hr.mono (by decide)) tkOf (pa_cons (pe_lst pa_nil) (pa_cons pe_int pa_nil))))
      (pss_cons (ps_set (i := 3) sc_law.nd rfl (Or.inl rfl) (pe_fn0 (f__law_begun T) (hr.mono (by decide)) tkOf))
      (pss_cons (ps_dput hu (pv 3) pe_str pe_non rfl)
      (pss_cons (ps_set (i := 4) sc_law.nd rfl (Or.inl rfl) (pe_lst pa_nil))
      (pss_cons (ps_for passOf rfl (pi_range1 rfl T.n_range (pa_cons (pe_fn (f__law_draw T) (hr.mono (by decide)) tkOf (pa_cons (pv 0) (pa_cons (pv 1) (pa_cons pe_int pa_nil)))) pa_nil)) (pg_name (i := 5) sc_law.nd rfl (Or.inl rfl)) (pss_one (ps_set (i := 4) sc_law.nd rfl (Or.inl rfl) (pe_op op_cat (pe_op op_cat (pv 4) (pe_lc (own := [("sign", 6)]) rfl sc_law.nd (pi_str (pe_fn (f__law_pick T) (hr.mono (by decide)) tkOf (pa_cons (pv 0) (pa_cons (pv 1) (pa_cons (pe_lst (pa_cons pe_str (pa_cons pe_str (pa_cons pe_str (pa_cons pe_str (pa_cons pe_str (pa_cons pe_str pa_nil))))))) pa_nil))))) (blkOk_by (N := ["script", "town", "hand", "state", "keys", "k", "sign", "menu", "key", "due"]) (sc := defScope s_law) (by decide +kernel)) (fun _ _ _ _ _ => (pg_name (i := 6) sc_law.nd rfl (Or.inl rfl))) (fun _ _ _ _ _ => pts_nil) (fun _ _ _ _ _ => (pv 6)))) (pe_lst (pa_cons pe_str pa_nil))))))
      (pss_cons (ps_set (i := 4) sc_law.nd rfl (Or.inl rfl) (pe_op op_cat (pe_op op_cat (pv 4) (pe_op op_rep (pe_lst (pa_cons pe_str pa_nil)) (pe_fn (f__law_draw T) (hr.mono (by decide)) tkOf (pa_cons (pv 0) (pa_cons (pv 1) (pa_cons pe_int pa_nil)))))) (pe_fn (f__law_pick T) (hr.mono (by decide)) tkOf (pa_cons (pv 0) (pa_cons (pv 1) (pa_cons (pe_lst (pa_cons (pe_lst pa_nil) (pa_cons (pe_lst (pa_cons pe_str pa_nil)) (pa_cons (pe_lst (pa_cons pe_str (pa_cons pe_str (pa_cons pe_str pa_nil)))) pa_nil)))) pa_nil))))))
      (pss_cons (ps_set (i := 7) sc_law.nd rfl (Or.inl rfl) (pe_lst (pa_cons pe_str (pa_cons pe_str (pa_cons pe_str (pa_cons pe_str (pa_cons pe_str (pa_cons pe_str (pa_cons pe_str (pa_cons pe_str (pa_cons pe_str (pa_cons pe_str (pa_cons pe_str (pa_cons pe_str (pa_cons pe_str (pa_cons pe_str pa_nil))))))))))))))))
      (pss_cons (ps_for passOf rfl (pi_range1 rfl T.n_range (pa_cons (pe_fn (f__law_draw T) (hr.mono (by decide)) tkOf (pa_cons (pv 0) (pa_cons (pv 1) (pa_cons pe_int pa_nil)))) pa_nil)) (pg_name (i := 5) sc_law.nd rfl (Or.inl rfl)) (pss_one (ps_expr (pe_bmK (K := K) rfl PySem.F.plainAttrs_list PySem.F.slot_list_append PySem.F.type_list_append mt_append (pv 4) (pa_cons (pe_fn (f__law_pick T) (hr.mono (by decide)) tkOf (pa_cons (pv 0) (pa_cons (pv 1) (pa_cons (pe_op op_cat (pv 7) (pe_lst (pa_cons pe_str (pa_cons pe_str pa_nil)))) pa_nil)))) pa_nil)))))
      (pss_cons (ps_for passOf rfl (pi_listK (K := K) rfl (pv 4)) (pg_name (i := 8) sc_law.nd rfl (Or.inl rfl)) (pss_cons (ps_expr (pe_fn (f__law_key T) (hr.mono (by decide)) tkOf (pa_cons (pv 3) (pa_cons (pv 8) pa_nil))))
      (pss_cons (ps_expr (pe_mt (pv 2) (m_Hand_press T) (hr.mono (by decide)) tkOf (pa_cons (pv 8) pa_nil)))
      (pss_cons (ps_if (pt_cmpR (op_neDK (K := K) rfl hu64) (pe_tup (pa_cons (pe_mt0 (pv 2) (m_Hand_text T) (hr.mono (by decide)) tkOf) (pa_cons (pe_mt0 (pv 2) (m_Hand_at T) (hr.mono (by decide)) tkOf) pa_nil))) (pe_slice (sl_tupK (K := K) rfl) (pe_dget hu (pv 3) pe_str (fun _ _ => rfl)) po_none (po_some pe_int)) (nomark _)) (pss_one (ps_ret pe_bl)) pss_nil)
      (pss_cons (ps_set (i := 9) sc_law.nd rfl (Or.inl rfl) (pe_ifExp (pt_cmpR op_isNon (pe_dget hu (pv 3) pe_str (fun _ _ => rfl)) pe_non (nomark _)) pe_non (pe_tup (pa_cons (pe_dget hu (pv 3) pe_str (fun _ _ => rfl)) (pa_cons (pe_ix (ix_tupK (K := K) rfl) (pe_ix (ix_listK (K := K) rfl) (pe_dget hu (pv 3) pe_str (fun _ _ => rfl)) (pe_un un_neg pe_int) (fun _ _ => rfl)) pe_int (fun _ _ => rfl)) pa_nil)))))
      (pss_one (ps_if (pt_cmpR (op_neDK (K := K) rfl hu64) (pe_mt0 (pv 2) (m_Hand_looked_for T) (hr.mono (by decide)) tkOf) (pv 9) (nomark _)) (pss_one (ps_ret pe_bl)) pss_nil)))))))
      (pss_one (ps_ret (pe_cmpR (op_eqDK (K := K) rfl hu64) (pe_mt0 (pv 2) (m_Hand_told T) (hr.mono (by decide)) tkOf) (pe_dget hu (pv 3) pe_str (fun _ _ => rfl)) (nomark _)))))))))))))), ?_⟩
    walk_at "z"
    intro t ht
    walk_at "z"
    intro q hq
    have s1 : Same H (upd (upd H t (.lst [])) q (.lst [])) := by walk_at "sa"
    have hnt : t ≠ q := (un_fresh hq).1.symm
    have B1 : Bs K (upd (upd H t (.lst [])) q (.lst [])) a t ns 0 := ⟨hs.same s1, [], by walk_at "h", Nat.le_refl _⟩
    have hq1 : upd (upd H t (.lst [])) q (.lst []) q = some (.lst (([] : List Str).map V.str)) := upd_same
    generalize upd (upd H t (.lst [])) q (.lst []) = H1 at B1 hq1 ⊢
    walk_at "z"
    intro p dx hp hdx hne
    refine hand_new (K := K) (w := 20) hp hdx hne hq1 (by decide +kernel) (by decide) (by decide) (by decide) fun H2 A ws hA okA srt s2 nx => ?_
    walk_at "z"
    refine ⟨rfl, fun H3 d sb sl lk ls lt kv0 hfr R3 hl3 s3 => ?_⟩
    have W0 : WH K H2 a t ns 0 p A (HS.new ws 20) [] := WH.init (T := []) (B1.same s2) hA okA (fun z => B1.alive t (by simp) (nx t z))
    have W1 := W0.fresh s3 hfr
    clear W0 hA B1 hq1 hfr
    have ho3 := R3.st.ob
    have l4 := length_putK kv0 (.inr "was") .non
    walk_at "z"
    have R4 := R3.putNew (x := "was") (v := .non) (by decide) (by omega)
    have f4 : Fr [d, sb, sl, lk, ls, lt] H3 (upd H3 d (.dK (putK kv0 (.inr "was") .non))) := Fr.upd Fr.refl (by simp)
    have W4 := W1.law f4 R3.wr nw_refl
    have S4 : S3 (upd H3 d (.dK (putK kv0 (.inr "was") .non))) d sb sl lk ls lt (putK kv0 (.inr "was") .non) (HS.new ws 20).line (HS.new ws 20).hist (HS.new ws 20).ent [] (HS.new ws 20).srch := ⟨R4, ⟨dg_same, rfl⟩, (fun _ h => nomatch h), ⟨⟨_, dg_same⟩, .inl (by omega)⟩⟩
    clear W1 R3 R4 f4 ho3
    generalize putK kv0 (.inr (Str.ofString "was")) .non = kvs at *
    generalize upd H3 d _ = H4 at W4 S4 ⊢
    intro sq hsq
    have s5 : Same H4 (upd H4 sq (.lst [])) := Same.new (Same.refl _) hsq
    have W5 : W3 K (upd H4 sq (.lst [])) a t ns 0 p A (HS.new ws 20) d sb sl lk ls lt kvs [] (HS.new ws 20) sq [] := by
      have V := W4.same s5
      refine ⟨⟨⟨V.wd.bs, V.wd.tx, fun z => ?_, fun x hx z => ?_⟩, V.hd, V.ok⟩, S4.same s5, upd_same, fun z => S4.alive sq z hsq⟩
      · have z : t ∈ [d, sb, sl, lk, ls, lt] ++ [sq] := z
        rcases List.mem_append.mp z with e | e
        · exact W4.wd.ty e
        · exact W4.wd.bs.alive t (by simp) (List.mem_singleton.mp e ▸ hsq)
      · have z : x ∈ [d, sb, sl, lk, ls, lt] ++ [sq] := z
        rcases List.mem_append.mp z with e | e
        · exact W4.wd.xy x hx e
        · exact W4.hd.aliveX x hx (List.mem_singleton.mp e ▸ hsq)
    clear W4 S4 s5
    generalize upd H4 sq _ = H5 at W5 ⊢
    walk_at "z"
    refine draw_bs W5.wh.wd.bs (by omega) (by omega) fun e H6 e0 e1 B6 f6 => ?_
    have W6 := W5.draw B6 f6
    clear W5 B6 f6
    refine z_rng1e (by omega) (by omega) ?_
    refine fg_range (fun i σ' H' => ∃ sq KS v5, σ' = [some (.ref a), some (.ref t), some (.ref p), some (.ref d), some (.ref sq), v5, none, none, none, none] ∧ W3 K H' a t ns (1 + i) p A (HS.new ws 20) d sb sl lk ls lt kvs [] (HS.new ws 20) sq KS ∧ (∀ x ∈ KS, sK x = true) ∧ KS.length ≤ 4 * i) ?_ ?_ ?_
    · exact ⟨sq, [], none, rfl, W6, (fun _ h => nomatch h), Nat.le_refl _⟩
    · clear W6 hsq sq
      rintro i σ' H7 hi ⟨sq, KS, v5, rfl, W, hKS, lKS⟩
      have hi' : i < 9 := by omega
      have l7 := W.l
      walk_at "z"
      intro lp hlp
      walk_at "z"
      refine pick_bs W.wh.wd.bs (by omega) hlp (by simp) fun v hv H8 B8 f8 => ?_
      have hv' : v ∈ (["ab", "abc", "b c", "aab", "cab", "a"] : List Str).map V.str := hv
      obtain ⟨x, hx, rfl⟩ := mem_strs hv'
      obtain ⟨dg1, dg2⟩ := (by decide +kernel : ∀ x ∈ (["ab", "abc", "b c", "aab", "cab", "a"] : List Str), (tl x).all okc = true ∧ (tl x).length ≤ 3) x hx
      have W8 := W.draw B8 f8
      clear W B8 f8 l7 hv hv'
      have lx : x.length ≤ 3 := by rw [len_tl]; exact dg2
      refine z_str ?_
      intro D hD
      refine lc_strP (fun c => .str ⟨#[c]⟩) (by rw [sizeLine_eq]; omega) (fun _ => rfl) hD (fun c H2 Q2 hs k => ?_) ?_
      · walk_at "z"
        exact k
      · have eDS : (tl x).map (fun c => V.str (⟨#[c]⟩ : Str)) = ((tl x).map fun c => (⟨#[c]⟩ : Str)).map V.str := by rw [List.map_map]; rfl
        rw [eDS]
        have hDS : ∀ y ∈ (tl x).map (fun c => (⟨#[c]⟩ : Str)), sK y = true := fun y hy => by
          obtain ⟨c, hc, rfl⟩ := List.mem_map.mp hy
          exact sK_one (List.all_eq_true.mp dg1 c hc)
        have lDS : ((tl x).map (fun c => (⟨#[c]⟩ : Str))).length ≤ 3 := by rw [List.length_map]; exact dg2
        generalize (tl x).map (fun c => (⟨#[c]⟩ : Str)) = DS at *
        have W10 := W8.same (Same.new (Same.refl _) hD (o := .lst (DS.map V.str)))
        have e10 : upd H8 D (.lst (DS.map V.str)) D = some (.lst (DS.map V.str)) := upd_same
        clear W8
        generalize upd H8 D _ = H10 at W10 e10 ⊢
        refine z_cat W10.l e10 (by rw [List.length_map, List.length_map, sizeLine_eq]; omega) fun s1 hs1 => ?_
        have W11 := W10.newl hs1 (KS ++ DS)
        rw [List.map_append] at W11
        have e11 : upd H10 s1 (.lst (KS.map V.str ++ DS.map V.str)) s1 = some (.lst ((KS ++ DS).map V.str)) := by rw [upd_same, List.map_append]
        clear W10 e10
        generalize upd H10 s1 _ = H11 at W11 e11 ⊢
        walk_at "z"
        intro l12 hl12
        have W12 := W11.same (Same.new (Same.refl _) hl12 (o := .lst [.str "enter"]))
        have e12 : upd H11 l12 (.lst [.str "enter"]) l12 = some (.lst ((["enter"] : List Str).map V.str)) := upd_same
        have e12a := upd_new (o' := .lst [.str "enter"]) hl12 e11
        clear W11 e11
        generalize upd H11 l12 _ = H12 at W12 e12 e12a ⊢
        refine z_cat e12a e12 (by rw [List.length_map, List.length_map, List.length_append, sizeLine_eq]; show _ + 1 ≤ _; omega) fun s2 hs2 => ?_
        have W13 := W12.newl hs2 (KS ++ DS ++ (["enter"] : List Str))
        rw [List.map_append] at W13
        walk_at "z"
        refine ⟨s2, KS ++ DS ++ (["enter"] : List Str), _, rfl, W13.mono (by omega), fun y hy => ?_, ?_⟩
        · rcases List.mem_append.mp hy with z | z
          · exact (List.mem_append.mp z).elim (hKS y) (hDS y)
          · rw [List.mem_singleton.mp z]; decide +kernel
        · rw [List.length_append, List.length_append]; show _ + 1 ≤ _; omega
    clear W6 hsq sq
    rintro σ' H9 ⟨sq, KS, v5, rfl, W0, hKS, lKS⟩
    have W := W0.mono (n' := 10) (by omega)
    clear W0
    have lKS' : KS.length ≤ 36 := by omega
    clear lKS
    walk_at "z"
    intro l10 hl10
    have W10 := W.same (Same.new (Same.refl _) hl10 (o := .lst [.str "up"]))
    have e10 : upd H9 l10 (.lst [.str "up"]) l10 = some (.lst [.str "up"]) := upd_same
    have nlt : l10 ≠ t := fun z => W.wh.wd.bs.alive t (by simp) (z ▸ hl10)
    clear W
    generalize upd H9 l10 _ = H10 at W10 e10 ⊢
    walk_at "z"
    refine draw_bs W10.wh.wd.bs (by omega) (by omega) fun u H11 u0 u1 B11 f11 => ?_
    have W11 := W10.draw B11 f11
    have e11 := f11 _ _ e10 (by simpa using nlt)
    clear W10 e10 B11 f11
    walk_at "z"
    refine z_rep e11 (by omega) (by omega) (by rw [sizeLine_eq]; show 1 * _ ≤ _; omega) fun l12 hl12 => ?_
    rw [show (List.replicate u.toNat [V.str (Str.ofString "up")]).flatten = (List.replicate u.toNat ("up" : Str)).map V.str from by rw [List.map_replicate]; induction u.toNat with | zero => rfl | succ n ih => rw [List.replicate_succ, List.flatten_cons, List.replicate_succ, ih]; rfl]
    have W12 := W11.same (Same.new (Same.refl _) hl12 (o := .lst ((List.replicate u.toNat ("up" : Str)).map V.str)))
    have e12 : upd H11 l12 (.lst ((List.replicate u.toNat ("up" : Str)).map V.str)) l12 = some (.lst ((List.replicate u.toNat ("up" : Str)).map V.str)) := upd_same
    clear W11 e11
    generalize upd H11 l12 _ = H12 at W12 e12 ⊢
    refine z_cat W12.l e12 (by rw [List.length_map, List.length_map, List.length_replicate, sizeLine_eq]; omega) fun s3 hs3 => ?_
    have W13 := W12.newl hs3 (KS ++ List.replicate u.toNat ("up" : Str))
    rw [List.map_append] at W13
    have hKS2 : ∀ y ∈ KS ++ List.replicate u.toNat ("up" : Str), sK y = true := fun y hy => by
      rcases List.mem_append.mp hy with z | z
      · exact hKS y z
      · rw [List.eq_of_mem_replicate z]; decide +kernel
    have lK2 : (KS ++ List.replicate u.toNat ("up" : Str)).length ≤ 40 := by rw [List.length_append, List.length_replicate]; omega
    rw [← List.map_append] at W13 ⊢
    clear W12 e12 hKS lKS'
    generalize KS ++ List.replicate u.toNat ("up" : Str) = KS2 at *
    generalize upd H12 s3 _ = H13 at W13 ⊢
    walk_at "z"
    intro r1 hr1
    have nt1 : r1 ≠ t := fun z => W13.wh.wd.bs.alive t (by simp) (z ▸ hr1)
    have W14 := W13.same (Same.new (Same.refl _) hr1 (o := .lst []))
    have e14 : upd H13 r1 (.lst []) r1 = some (.lst (([] : List Str).map V.str)) := upd_same
    clear W13
    generalize upd H13 r1 _ = H14 at W14 e14 ⊢
    walk_at "z"
    intro r2 hr2
    have nt2 : r2 ≠ t := fun z => W14.wh.wd.bs.alive t (by simp) (z ▸ hr2)
    have s15 : Same H14 (upd H14 r2 (.lst [.str "x"])) := Same.new (Same.refl _) hr2
    have W15 := W14.same s15
    have e15a := s15 _ _ e14
    have e15 : upd H14 r2 (.lst [.str "x"]) r2 = some (.lst ((["x"] : List Str).map V.str)) := upd_same
    clear W14 e14
    generalize upd H14 r2 _ = H15 at W15 e15 e15a s15 ⊢
    clear s15
    walk_at "z"
    intro r3 hr3
    have nt3 : r3 ≠ t := fun z => W15.wh.wd.bs.alive t (by simp) (z ▸ hr3)
    have s16 : Same H15 (upd H15 r3 (.lst [.str "a", .str "b", .str "left"])) := Same.new (Same.refl _) hr3
    have W16 := W15.same s16
    have e16a := s16 _ _ e15a
    have e16b := s16 _ _ e15
    have e16 : upd H15 r3 (.lst [.str "a", .str "b", .str "left"]) r3 = some (.lst ((["a", "b", "left"] : List Str).map V.str)) := upd_same
    clear W15 e15 e15a
    generalize upd H15 r3 _ = H16 at W16 e16 e16a e16b s16 ⊢
    clear s16
    walk_at "z"
    intro r4 hr4
    walk_at "z"
    refine pick_bs W16.wh.wd.bs (by omega) hr4 (by simp) fun v hv H17 B17 f17 => ?_
    have W17 := W16.draw B17 f17
    obtain ⟨r, X, rfl, er, hX, lX⟩ : ∃ (r : Addr) (X : List Str), v = .ref r ∧ H17 r = some (.lst (X.map V.str)) ∧ (∀ y ∈ X, sK y = true) ∧ X.length ≤ 3 := by
      simp only [List.mem_cons, List.not_mem_nil, or_false] at hv
      rcases hv with rfl | rfl | rfl
      · exact ⟨r1, [], rfl, f17 _ _ e16a (by simpa using nt1), (fun _ h => nomatch h), by decide⟩
      · exact ⟨r2, ["x"], rfl, f17 _ _ e16b (by simpa using nt2), by decide +kernel, by decide⟩
      · exact ⟨r3, ["a", "b", "left"], rfl, f17 _ _ e16 (by simpa using nt3), by decide +kernel, by decide⟩
    clear W16 B17 f17 e16 e16a e16b hv
    refine z_cat W17.l er (by rw [List.length_map, List.length_map, sizeLine_eq]; omega) fun s4 hs4 => ?_
    have W18 := W17.newl hs4 (KS2 ++ X)
    have hKS3 : ∀ y ∈ KS2 ++ X, sK y = true := fun y hy => (List.mem_append.mp hy).elim (hKS2 y) (hX y)
    have lK3 : (KS2 ++ X).length ≤ 43 := by rw [List.length_append]; omega
    rw [← List.map_append]
    clear W17 er hKS2 lK2
    generalize KS2 ++ X = KS3 at *
    generalize upd H17 s4 _ = H18 at W18 ⊢
    clear hs3 hs4
    walk_at "z"
    intro mq hmq
    have e19 : upd H18 mq (.lst [.str "search", .str "search", .str "search", .str "a", .str "b", .str "c", .str "a", .str "b", .str "rub", .str "rub", .str "cancel", .str "enter", .str "home", .str "up"]) mq = some (.lst (KEYS43.map V.str)) := upd_same
    have W19 := W18.same (Same.new (Same.refl _) hmq (o := .lst [.str "search", .str "search", .str "search", .str "a", .str "b", .str "c", .str "a", .str "b", .str "rub", .str "rub", .str "cancel", .str "enter", .str "home", .str "up"]))
    have nmt : mq ≠ t := fun z => W18.wh.wd.bs.alive t (by simp) (z ▸ hmq)
    have nmq : mq ≠ s4 := (ne_of_none W18.l hmq).symm
    clear W18
    generalize upd H18 mq _ = H19 at W19 e19 ⊢
    walk_at "z"
    refine draw_bs W19.wh.wd.bs (by omega) (by omega) fun u2 H20 u20 u21 B20 f20 => ?_
    have W20 := W19.draw B20 f20
    have e20 := f20 _ _ e19 (by simpa using nmt)
    clear W19 B20 f20 e19
    refine z_rng1e (by omega) (by omega) ?_
    refine fg_range (fun i σ' H' => ∃ KS v5, σ' = [some (.ref a), some (.ref t), some (.ref p), some (.ref d), some (.ref s4), v5, none, some (.ref mq), none, none] ∧ W3 K H' a t ns (13 + i) p A (HS.new ws 20) d sb sl lk ls lt kvs [] (HS.new ws 20) s4 KS ∧ (∀ x ∈ KS, sK x = true) ∧ KS.length ≤ 43 + i ∧ H' mq = some (.lst (KEYS43.map V.str))) ?_ ?_ ?_
    · exact ⟨KS3, v5, rfl, W20.mono (by omega), hKS3, by omega, e20⟩
    · clear W20 e20 hKS3 lK3 KS3
      rintro i σ' H21 hi ⟨KS, v5, rfl, W, hKS, lKS, em⟩
      have hi' : i < 41 := by omega
      have l21 := W.l
      walk_at "z"
      intro r5 hr5
      have s22 : Same H21 (upd H21 r5 (.lst [.str "down", .str "undo"])) := Same.new (Same.refl _) hr5
      have W22 := W.same s22
      have em22 := s22 _ _ em
      have e22 : upd H21 r5 (.lst [.str "down", .str "undo"]) r5 = some (.lst ((["down", "undo"] : List Str).map V.str)) := upd_same
      clear W em l21
      generalize upd H21 r5 _ = H22 at W22 em22 e22 s22 ⊢
      clear s22
      refine z_cat em22 e22 (by decide) fun r6 hr6 => ?_
      rw [← List.map_append]
      walk_at "z"
      refine pick_bs W22.wh.wd.bs (by omega) hr6 (by decide) fun v hv H23 B23 f23 => ?_
      obtain ⟨key, hkey, rfl⟩ := mem_strs hv
      have W23 := W22.draw B23 f23
      have em23 := f23 _ _ em22 (by simpa using nmt)
      have l23 := W23.l
      clear W22 em22 e22 B23 f23
      walk_at "z"
      have W24 := W23.push (KS ++ [key])
      rw [List.map_append] at W24
      refine ⟨KS ++ [key], _, rfl, W24.mono (by omega), fun y hy => ?_, by rw [List.length_append]; show _ + 1 ≤ _; omega, ?_⟩
      · rcases List.mem_append.mp hy with z | z
        · exact hKS y z
        · rw [List.mem_singleton.mp z]; exact (by decide +kernel : ∀ k ∈ KEYS43 ++ (["down", "undo"] : List Str), sK k = true) key hkey
      · exact (Fr.upd Fr.refl (by simp) : Fr [s4] H23 _) _ _ em23 (by simpa using nmq)
    clear W20 e20 hKS3 lK3 KS3
    rintro σ' H21 ⟨KS, v5, rfl, W, hKS, lKS, em⟩
    clear em
    have lKS' : KS.length ≤ 84 := by omega
    have l21 := W.l
    walk_at "z"
    refine fg_list (K := K) (xs := KS.map V.str) (fun j σ' H' => ∃ A Z sb sl lk ls kvs fp v8 v9, σ' = [some (.ref a), some (.ref t), some (.ref p), some (.ref d), some (.ref s4), v5, none, some (.ref mq), v8, v9] ∧ W3 K H' a t ns 100 p A Z d sb sl lk ls lt kvs fp Z s4 KS ∧ Calm3 Z ∧ Z.n ≤ 199 * j) ?_ ?_ ?_ ?_
    · exact ⟨A, _, sb, sl, lk, ls, kvs, [], _, _, rfl, W.mono (by omega), ⟨rfl, rfl⟩, Nat.le_refl _⟩
    · rintro j σ' H' _ ⟨_, _, _, _, _, _, _, _, _, _, _, W, _⟩
      exact SqL.of W.l
    · clear W l21 okA
      rintro j x σ' H22 hx ⟨A, Z, sb, sl, lk, ls, kvs, fp, v8, v9, rfl, W, hC, hn⟩
      rw [List.getElem?_map] at hx
      obtain ⟨key, hkey, rfl⟩ := Option.map_eq_some_iff.mp hx
      have hjl : j < KS.length := (List.getElem?_eq_some_iff.mp hkey).1
      have hK := hKS key (List.mem_of_getElem? hkey)
      obtain ⟨ik, hf, hr⟩ := sK_key hK
      have hC' := press3c hC hK
      have hn' := HS.press_n2 W.wh.ok ik hr
      walk_at "z"
      refine ⟨d, sb, sl, lk, ls, lt, kvs, fp, Z, key, rfl, W.s3, W.wh.ok, hC, by omega, hK, fun H23 sb2 sl2 lk2 ls2 kvs2 fp2 nw2 R2 f2 => ?_⟩
      have W23 := W.state f2 nw2 R2
      have okP := W.wh.ok.press ik
      clear W R2 nw2 f2
      have ho := W23.wh.hd.ob
      walk_at "z"
      refine ⟨p, A, Z, key, rfl, W23.wh.hd, W23.wh.ok, key_len ik, fun _ => ⟨by omega, fun H24 A24 h24 m24 => ?_⟩, fun z => by rw [ik] at z; cases z⟩
      have W24 := W23.hand m24 h24 okP
      clear W23 h24 m24 ho
      generalize Z.press key = Y at *
      have ho24 := W24.wh.hd.ob
      obtain ⟨hd24, hl24, ⟨r24, hr24, hp24⟩, _, _, _, _, _, _⟩ := id W24.s3.s2.st
      walk_at "z"
      refine ⟨p, A24, _, rfl, W24.wh.hd, ?_⟩
      walk_at "z"
      refine ⟨p, A24, _, rfl, W24.wh.hd, ?_⟩
      walk_at "z"
      intro ra hra
      walk_at "z"
      refine z_nowNe hp24 hra rfl rfl (plain_ok W24.wh.ok.li.ok.text) fun H25 s25 => ?_
      have W25 := W24.same s25
      clear ho24 hd24 hr24 hp24 hra hl24 W24 s25
      have ho25 := W25.wh.hd.ob
      have hod25 := W25.s3.s2.st.ob
      cases hs : Y.srch with
      | none =>
        have R25 := W25.s3
        rw [hs] at R25
        obtain ⟨gw, efp⟩ := id R25.sr
        walk_at "z"
        refine ⟨p, A24, Y, rfl, W25.wh.hd, fun _ => ?_, fun q hq => by rw [hs] at hq; cases hq⟩
        walk_at "z"
        refine z_neS (d := .none) .non .non (Sh.ok (n := 0) .non) ?_
        walk_at "z"
        exact ⟨A24, Y, sb2, sl2, lk2, ls2, kvs2, fp2, _, _, rfl, W25, hC', by omega⟩
      | some q =>
        have R25 := W25.s3
        rw [hs] at R25
        obtain ⟨rw0, rn, lt2, gw, hrw, hrn, gp, gt, hT, efp⟩ := id R25.sr
        obtain ⟨rs, rl, hl2, hpr, hP⟩ := trail_ends hT (W25.wh.ok.sr q hs).1.ne
        have hP : H25 rl = some (.tup [optV q.last.at_, .bl q.last.lost, .str q.last.part]) := hP
        walk_at "z"
        refine z_ixL (v := .ref rl) (SqL.of hl2) (by rw [List.map_append]; exact atI_last _ _) ?_
        walk_at "z"
        intro ta hta
        have s26 : Same H25 (upd H25 ta (.tup [.str q.part, .bl q.last.lost])) := Same.new (Same.refl _) hta
        have W26 := W25.same s26
        have e26 : upd H25 ta (.tup [.str q.part, .bl q.last.lost]) ta = some (.tup [.str q.part, .bl q.last.lost]) := upd_same
        clear ho25 hod25
        generalize upd H25 ta _ = H26 at W26 e26 s26 ⊢
        have ho26 := W26.wh.hd.ob
        walk_at "z"
        refine ⟨p, A24, Y, rfl, W26.wh.hd, fun hq => (by rw [hs] at hq; cases hq), fun q2 hq2 => ?_⟩
        obtain rfl : q = q2 := Option.some.inj (hs.symm.trans hq2)
        refine ⟨(W25.wh.ok.sr q hs).1.ne, fun tb htb => ?_⟩
        have s27 : Same H26 (upd H26 tb (.tup [.str q.part, .bl q.last.lost])) := Same.new (Same.refl _) htb
        have W27 := W26.same s27
        have e27 := s27 _ _ e26
        have e27b : upd H26 tb (.tup [.str q.part, .bl q.last.lost]) tb = some (.tup [.str q.part, .bl q.last.lost]) := upd_same
        clear ho26
        generalize upd H26 tb _ = H27 at W27 e27 e27b s27 ⊢
        walk_at "z"
        refine z_neS (d := .tuple [.str q.part, .bool q.last.lost]) (.tup (SqT.of e27b) (.cons (.str _) (.cons (.bl _) .nil))) (.tup (SqT.of e27) (.cons (.str _) (.cons (.bl _) .nil))) (Sh.ok (n := 1) (.tup (Shs.cons (.str (W25.wh.ok.sr q hs).1.pp) (.cons .bl shs_nil)))) ?_
        walk_at "z"
        exact ⟨A24, Y, sb2, sl2, lk2, ls2, kvs2, fp2, _, _, rfl, W27, hC', by omega⟩
    clear W l21 okA
    rintro σ' H22 ⟨A, Z, sb, sl, lk, ls, kvs, fp, v8, v9, rfl, W, hC, hn⟩
    have ho := W.wh.hd.ob
    have hod := W.s3.s2.st.ob
    have kt := W.s3.s2.kt
    have plE : ∀ t ∈ Z.ent, plainS t = true := fun t ht => plain_ok (W.wh.ok.eo t ht)
    have lE := W.wh.ok.el
    walk_at "z"
    refine ⟨p, A, Z, rfl, W.wh.hd, fun r23 hr23 => ?_⟩
    have W23 := W.same (Same.new (Same.refl _) hr23 (o := .lst (Z.ent.map V.str)))
    have e23 : upd H22 r23 (.lst (Z.ent.map V.str)) r23 = some (.lst (Z.ent.map V.str)) := upd_same
    clear ho hod W
    generalize upd H22 r23 _ = H23 at W23 e23 ⊢
    have hod := W23.s3.s2.st.ob
    walk_at "z"
    refine z_eqS (d := strD Z.ent) (dp_strs (SqL.of e23)) (dp_strs (SqL.of W23.s3.s2.ht)) (shaped_strs plE) ?_
    walk_at "z"
    exact k _
end

end LH
open PySem PySem.W PySem.Calls PyProof.Rows
theorem PySem.Challenge.cw_linehand_k43_whole_searches_holds : PySem.Challenge.rw_linehand_k43_whole_searches.Holds := by
  w_on; o_law
  refine HandSHeadRun.head_any (r := OpenLaw.row PySem.Challenge.rw_linehand_k43_whole_searches) (q := view (OpenLaw.row PySem.Challenge.rw_linehand_k43_whole_searches).prog [68]) (H := LH.hookP) (ob := LH.ob) (M := 40000) (loose := LH.loose) (d := HandSHeadRun.topDef (OpenLaw.row PySem.Challenge.rw_linehand_k43_whole_searches).prog 68) (kwd := []) LH.ob_eq (by kernel_rfl) (fun s => by kernel_rfl) LH.run (by kernel_rfl) (by kernel_rfl) (by kernel_rfl) (by rfl) (by first | assumption | decide +kernel) (by decide +kernel) ⟨rfl, rfl, rfl, rfl, rfl, by decide +kernel⟩ ?hw ?hc
  case hw => w_witness2
  case hc =>
    refine L2.walk_ofE (l := PySem.Challenge.rw_linehand_k43_whole_searches) (n := 63) (k := 14) (x := "script") (CX := L2.CX0) rfl (by decide) (by kernel_rfl) ⟨rfl, by decide, by decide⟩ ?F (fun _ _ _ _ z => z)
    intro w mg fa h Y G hmg0
    obtain ⟨K, KX, c⟩ := Y
    have hmg : mg ("law" : PySem.Str) = some (.ref fa) := by
      have e : (HandSHeadRun.topDef (OpenLaw.row PySem.Challenge.rw_linehand_k43_whole_searches).prog 68).name = ("law" : PySem.Str) := by kernel_rfl
      rw [← e]
      exact hmg0
    have T : LH.Tx K mg := ⟨c, h, KX, G⟩
    obtain ⟨fd, hB, hF⟩ := LH.f_law T
    have e1 : fa = He.ga K "law" := PySem.Value.ref.inj (Option.some.inj (hmg.symm.trans T.g_law))
    subst e1
    exact ⟨K, fd, LH.sp_law K, KX, fun s u => hB s [u] rfl, fun H a ns hl hO hS => ⟨a, ns, rfl, LH.Scr.of hl hO hS, fun _ => rfl⟩, fun base _ _ => LH.fnok0 (hF _ _ base) fun _ _ _ _ z => z⟩
